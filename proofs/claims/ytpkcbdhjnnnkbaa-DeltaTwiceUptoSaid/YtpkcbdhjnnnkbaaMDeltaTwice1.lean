/- Part 1 of the proof that DeltaTwice: called with any value and any changes that hold together at most 1048576 values and letters, the law answers true, and both read afterwards as they read before. -/
import Derived.WalkKit
import Derived.Laws.AppendOwn
import Derived.Orders
import Derived.Deep.MidRow
import Derived.Maps.AppendAt
import Derived.Lib.AppendStr
import Derived.Lib.ConvBytes
import Derived.Laws.BytesString
import Derived.Laws.StructEq
import Derived.Great.BuildSlice
import Derived.Laws.IdiomStrings
import Derived.Laws.MakeOwn
set_option linter.unusedSimpArgs false
set_option linter.unusedVariables false
namespace Go.Proofs.Ytpkcbdhjnnnkbaa.Abs
open Go
inductive D where
 | int (k:IntKind) (n:Int)
 | bool (b:Bool)
 | str (s:List UInt8)
 | sl (z:Nat) (xs:List D)
 | agg (xs:List D)
 | nilp
 | nil
 | nilk (k:Nat)
 | v (n:Nat)
 | seg (n:Nat)
 deriving Inhabited
def D.leaf:D→Bool
 | .agg _=>false
 | _=>true
def D.width:D→Nat
 | .agg xs=>xs.length
 | _=>1
def nilV:Nat→Value
 | 0=>.map none
 | 1=>.nilFunc
 | _=>.nilIface
theorem nilV_cells (k:Nat):(nilV k).cells=#[nilV k]:=by
 match k with
 | 0=>rfl
 | 1=>rfl
 | _+2=>rfl
theorem nilV_one (k:Nat):(nilV k).oneCell'=true:=by
 match k with
 | 0=>rfl
 | 1=>rfl
 | _+2=>rfl
inductive Rd (w:World) (S:Nat→Prop):D→Value→Prop
 | int (k:IntKind) (n:Int):Rd w S (.int k n) (.int k n)
 | bool (b:Bool):Rd w S (.bool b) (.bool b)
 | str (s:List UInt8) (hm:s.length≤9223372036854775807):Rd w S (.str s) (.string ⟨s.toArray⟩)
 | nilp:Rd w S .nilp (.pointer none)
 | nil:Rd w S .nil (.slice none 0 0)
 | nilk (k:Nat):Rd w S (.nilk k) (nilV k)
 | emp (z:Nat) (A:Option Addr) (c:Nat) (hm:c≤9223372036854775807):Rd w S (.sl z []) (.slice A 0 c)
 | sl (z:Nat) (xs:List D) (a:Addr) (c:Nat) (vs:List Value) (hl:xs.length≤c) (hm:c≤9223372036854775807) (hS:S a.block)
  (hv:vs.length=xs.length) (hr:∀ (i:Nat) (x:D) (v:Value),xs[i]?=some x→vs[i]?=some v→Rd w S x v)
  (hz:∀ (i:Nat) (v:Value),vs[i]?=some v→v.cells.size=z)
  (hc:∀ (i j:Nat) (v u:Value),vs[i]?=some v→v.cells[j]?=some u→w.cell? (a.add (i * z+j))=some u) :
  Rd w S (.sl z xs) (.slice (some a) xs.length c)
 | agg (xs:List D) (vs:List Value) (hl:xs.all D.leaf=true) (hv:vs.length=xs.length)
  (hr:∀ (i:Nat) (x:D) (v:Value),xs[i]?=some x→vs[i]?=some v→Rd w S x v):Rd w S (.agg xs) (.agg vs.toArray)
theorem add_block (a:Addr) (n:Nat):(a.add n).block=a.block:=by unfold Addr.add;split <;> rfl
theorem cell_of_heap {w w':World} {a:Addr} (h:w'.heap[a.block]?=w.heap[a.block]?):w'.cell? a=w.cell? a:=by simp [World.cell?,h]
theorem Rd.mono {w w':World} {S S':Nat→Prop} (hS:∀ k,S k→S' k) (hw:∀ k,S k→w'.heap[k]?=w.heap[k]?) {x:D} {v:Value} (h:Rd w S x v):Rd w' S' x v:=by
 induction h with
 | int k n=>exact .int k n
 | bool b=>exact .bool b
 | str s hm=>exact .str s hm
 | nilp=>exact .nilp
 | nil=>exact .nil
 | nilk k=>exact .nilk k
 | emp z A c hm=>exact .emp z A c hm
 | sl z xs a c vs hl hm hs hv _ hz hc ih=>
  refine .sl z xs a c vs hl hm (hS _ hs) hv ih hz fun i j v u h1 h2=>?_;rw [cell_of_heap (w:=w)]
  ·exact hc i j v u h1 h2
  ·rw [add_block];exact hw _ hs
 | agg xs vs hl hv _ ih=>exact .agg xs vs hl hv ih
theorem Rd.leaf_cells {w:World} {S:Nat→Prop} {x:D} {v:Value} (h:Rd w S x v) (hl:x.leaf=true):v.cells=#[v]:=by
 cases h <;> first | rfl | exact nilV_cells _ | (simp [D.leaf] at hl)
theorem Rd.leaf_one {w:World} {S:Nat→Prop} {x:D} {v:Value} (h:Rd w S x v) (hl:x.leaf=true):v.oneCell'=true:=by
 cases h <;> first | rfl | exact nilV_one _ | (simp [D.leaf] at hl)
theorem Rd.width {w:World} {S:Nat→Prop} {x:D} {v:Value} (h:Rd w S x v):v.cells.size=x.width:=by
 cases h <;> first | rfl | (rw [nilV_cells];rfl) | (simp_all [Value.cells,D.width])
inductive VC where
 | unk
 | full
 | exact
 deriving DecidableEq,Inhabited
inductive SV where
 | d (x:D)
 | loc (t o:Nat)
 | row (t:Nat)
 | el (x:D)
 | rel (t j o:Nat)
 | clo (f:FuncId) (fst caps:List SV)
 | tup (xs:List SV)
 | raw (t:Nat)
 | any
 | view (t lo n:Nat) (c:VC)
 | dx (z:Nat) (xs:List D)
 | ag (cs:List SV)
 deriving Inhabited
mutual
def SV.lt (n:Nat):SV→Prop
 | .loc t _=>t < n
 | .row t=>t < n
 | .rel t _ _=>t < n
 | .raw t=>t < n
 | .view t _ _ _=>t < n
 | .dx _ _=>True
 | .clo _ fs cs=>SV.lts n fs∧SV.lts n cs
 | .tup cs=>SV.lts n cs
 | .ag cs=>SV.lts n cs
 | .d _=>True
 | .el _=>True
 | .any=>True
def SV.lts (n:Nat):List SV→Prop
 | []=>True
 | c :: cs=>SV.lt n c∧SV.lts n cs
end
inductive RO where
 | ob (o:Obj)
 | map (kvs:List (D×D))
inductive AO where
 | box (cs:List SV)
 | row (e:TypeId) (z:Nat) (xs:List D)
 | raw (ob:RO)
def obMap:Obj→Bool
 | .map _ _=>true
 | _=>false
def RO.isMap:RO→Bool
 | .ob o=>obMap o
 | .map _=>true
def AO.kin:AO→AO→Prop
 | .box _,.box _=>True
 | .row e z _,.row e' z' _=>e=e'∧z=z'
 | .raw a,.raw b=>a.isMap=b.isMap
 | _,_=>False
theorem AO.kin_refl (x:AO):x.kin x:=by cases x <;> simp [AO.kin]
theorem AO.kin_trans {x y z:AO} (h:x.kin y) (k:y.kin z):x.kin z:=by
 cases x <;> cases y <;> cases z <;> simp_all [AO.kin]
theorem AO.kin_box {x:AO} {cs:List SV} (h:x.kin (.box cs)):∃ cs',x=.box cs':=by
 cases x <;> simp_all [AO.kin]
theorem AO.kin_row {x:AO} {e:TypeId} {z:Nat} {xs:List D} (h:x.kin (.row e z xs)):∃ xs',x=.row e z xs':=by
 cases x <;> simp_all [AO.kin]
theorem AO.kin_raw {x:AO} {ob:RO} (h:x.kin (.raw ob)):∃ ob',x=.raw ob':=by
 cases x <;> simp_all [AO.kin]
def VW (z lo n:Nat) (c:VC) (u v:Value):Prop:=
 (u=.slice none 0 0∧v=.slice none 0 0∧lo=0∧n=0)∨
 ∃ g m k p,u=.slice (some ⟨g,0,none⟩) m k∧n≤p∧lo+p≤k∧(c=.full→lo+p=k)∧(c=.exact→p=n)∧(v=.slice (some ⟨g,lo * z,none⟩) n p∨p=0∧∃ f,f≤lo * z∧v=.slice (some ⟨g,f,none⟩) 0 0)
inductive SR (w:World) (S:Nat→Prop) (γ:Nat→Value) (o:Nat→Option AO):SV→Value→Prop
 | any (v:Value):SR w S γ o .any v
 | d (x:D) (v:Value) (h:Rd w S x v):SR w S γ o (.d x) v
 | loc (t f:Nat) (v:Value) (h:∀ cs,o t=some (.box cs)→∃ g,γ t=.pointer (some ⟨g,0,none⟩)∧v=.pointer (some ⟨g,f,none⟩)):SR w S γ o (.loc t f) v
 | row (t:Nat) (v:Value) (h:∀ e z xs,o t=some (.row e z xs)→v=γ t):SR w S γ o (.row t) v
 | raw (t:Nat) (v:Value) (h:∀ ob,o t=some (.raw ob)→v=γ t):SR w S γ o (.raw t) v
 | el (x:D) (a:Addr) (v:Value) (hS:S a.block) (hr:Rd w S x v) (hc:∀ (j:Nat) (u:Value),v.cells[j]?=some u→w.cell? (a.add j)=some u):SR w S γ o (.el x) (.pointer (some a))
 | rel (t j f:Nat) (v:Value) (h:∀ e z xs,o t=some (.row e z xs)→∃ g n c,γ t=.slice (some ⟨g,0,none⟩) n c∧v=.pointer (some ⟨g,j * z+f,none⟩)):SR w S γ o (.rel t j f) v
 | view (t lo n:Nat) (c:VC) (v:Value) (h:∀ e z xs,o t=some (.row e z xs)→VW z lo n c (γ t) v):SR w S γ o (.view t lo n c) v
 | dx (z:Nat) (xs:List D) (v:Value) (h:Rd w S (.sl z xs) v) (hc:∀ A n c,v=.slice A n c→c=n):SR w S γ o (.dx z xs) v
 | clo (f:FuncId) (fs caps:List SV) (us vs:List Value) (hu:us.length=fs.length) (hs:∀ (i:Nat) (c:SV) (v:Value),fs[i]?=some c→us[i]?=some v→SR w S γ o c v)
  (hv:vs.length=caps.length) (hr:∀ (i:Nat) (c:SV) (v:Value),caps[i]?=some c→vs[i]?=some v→SR w S γ o c v):SR w S γ o (.clo f fs caps) (.func (.func f) us.toArray vs.toArray)
 | tup (xs:List SV) (vs:List Value) (hv:vs.length=xs.length) (hr:∀ (i:Nat) (c:SV) (v:Value),xs[i]?=some c→vs[i]?=some v→SR w S γ o c v):SR w S γ o (.tup xs) (.tuple vs.toArray)
 | ag (xs:List SV) (vs:List Value) (hv:vs.length=xs.length) (hr:∀ (i:Nat) (c:SV) (v:Value),xs[i]?=some c→vs[i]?=some v→SR w S γ o c v) (h1:∀ u∈vs,u.oneCell'=true):SR w S γ o (.ag xs) (.agg vs.toArray)
def blk:Value→Option Nat
 | .pointer (some a)=>some a.block
 | .slice (some a) _ _=>some a.block
 | .map (some r)=>some r
 | _=>none
def Live (γ:Nat→Value) (o:Nat→Option AO) (g:Nat):Prop:=∃ t x,o t=some x∧blk (γ t)=some g
def cellsOf (vs:List Value):List Value:=vs.flatMap fun v=>v.cells.toList
structure BoxAt (w:World) (S:Nat→Prop) (γ:Nat→Value) (o:Nat→Option AO) (v:Value) (cs:List SV):Prop where
 mk ::
 out:∃ g arr ty,v=.pointer (some ⟨g,0,none⟩)∧w.heap[g]?=some (.cells arr ty (0,0))∧arr.size=cs.length∧
  ∀ (i:Nat) (c:SV) (u:Value),cs[i]?=some c→arr[i]?=some u→SR w S γ o c u
structure RowAt (w:World) (S:Nat→Prop) (v:Value) (e:TypeId) (z:Nat) (xs:List D):Prop where
 mk ::
 out:∃ vs:List Value,w.ownsRow 0 e z v xs.length (cellsOf vs)∧vs.length=xs.length∧(∀ (i:Nat) (x:D) (u:Value),xs[i]?=some x→vs[i]?=some u→Rd w S x u)∧∀ (i:Nat) (u:Value),vs[i]?=some u→u.cells.size=z
structure MapRd (w:World) (S:Nat→Prop) (kvs:List (D×D)) (es:List MapEntry) (clk:Nat):Prop where
 len:es.length=kvs.length
 rd:∀ (i:Nat) (kv:D×D) (e:MapEntry),kvs[i]?=some kv→es[i]?=some e→Rd w S kv.1 e.key∧Rd w S kv.2 e.val
 born:∀ e∈es,e.born < clk
 apart:es.Pairwise fun a b=>a.born≠b.born
def RO.At (w:World) (S:Nat→Prop) (g:Nat):RO→Prop
 | .ob y=>w.heap[g]?=some y
 | .map kvs=>∃ es clk,w.heap[g]?=some (.map es clk)∧MapRd w S kvs es.toList clk
structure RawAt (w:World) (S:Nat→Prop) (v:Value) (ob:RO):Prop where
 mk ::
 out:∃ g,v=(if ob.isMap=true then .map (some g) else .pointer (some ⟨g,0,none⟩))∧ob.At w S g
theorem RawAt.blk {w:World} {S:Nat→Prop} {v:Value} {ob:RO} (h:RawAt w S v ob):∃ g,blk v=some g∧ob.At w S g:=by
 obtain ⟨g,h1,h2⟩:=h.out;refine ⟨g,?_,h2⟩;rw [h1];split <;> rfl
theorem RawAt.kept {w w':World} {S S':Nat→Prop} {v:Value} {ob:RO} (h:RawAt w S v ob) (hS:∀ k,S k→S' k) (hw:∀ k,S k→w'.heap[k]?=w.heap[k]?) (hk:∀ g,Abs.blk v=some g→w'.heap[g]?=w.heap[g]?):RawAt w' S' v ob:=by
 obtain ⟨g,h1,h2⟩:=h.out;refine ⟨g,h1,?_⟩;have hg:=hk g (by rw [h1];split <;> rfl);cases ob with
 | ob y=>exact hg.trans (show w.heap[g]?=some y from h2)
 | map kvs=>
  obtain ⟨es,clk,h3,h4⟩:=h2;exact ⟨es,clk,hg.trans h3,h4.len,fun i kv e h5 h6=>⟨(h4.rd i kv e h5 h6).1.mono hS hw,(h4.rd i kv e h5 h6).2.mono hS hw⟩,h4.born,h4.apart⟩
structure Sto (w:World) (S:Nat→Prop) (γ:Nat→Value) (o:Nat→Option AO) (nk:Nat):Prop where
 s_lt:∀ k,S k→k < w.heap.size
 o_lt:∀ t x,o t=some x→t < nk
 box:∀ t cs,o t=some (.box cs)→BoxAt w S γ o (γ t) cs∧SV.lts nk cs
 row:∀ t e z xs,o t=some (.row e z xs)→RowAt w S (γ t) e z xs
 raw:∀ t ob,o t=some (.raw ob)→RawAt w S (γ t) ob
 away:∀ t x g,o t=some x→blk (γ t)=some g→¬ S g∧g < w.heap.size
 apart:∀ t t' x x' g,t≠t'→o t=some x→o t'=some x'→blk (γ t)=some g→blk (γ t')=some g→False
structure Tr (w:World) (S:Nat→Prop) (γ:Nat→Value) (o:Nat→Option AO) (nk:Nat) (w':World) (S':Nat→Prop) (γ':Nat→Value) (o':Nat→Option AO) (nk':Nat):Prop where
 os:w'.os=w.os
 tape:w'.tape=w.tape
 output:w'.output=w.output
 size:w.heap.size≤w'.heap.size
 nks:nk≤nk'
 kept:∀ k,k < w.heap.size→¬ Live γ o k→w'.heap[k]?=w.heap[k]?
 s:∀ k,S k→S' k
 s_new:∀ k,S' k→S k∨w.heap.size≤k∨Live γ o k
 live:∀ g,Live γ' o' g→w.heap.size≤g∨Live γ o g
 keys:∀ t x,t < nk→o' t=some x→∃ y,o t=some y∧AO.kin y x∧γ' t=γ t
theorem Tr.refl (w:World) (S:Nat→Prop) (γ:Nat→Value) (o:Nat→Option AO) (nk:Nat):Tr w S γ o nk w S γ o nk:=
 ⟨rfl,rfl,rfl,Nat.le_refl _,Nat.le_refl _,fun _ _ _=>rfl,fun _ h=>h,fun _ h=>.inl h,fun _ h=>.inr h,fun _ x _ h=>⟨x,h,AO.kin_refl x,rfl⟩⟩
theorem Tr.trans {w w' w'':World} {S S' S'':Nat→Prop} {γ γ' γ'':Nat→Value} {o o' o'':Nat→Option AO} {nk nk' nk'':Nat}
    (h:Tr w S γ o nk w' S' γ' o' nk') (k:Tr w' S' γ' o' nk' w'' S'' γ'' o'' nk''):Tr w S γ o nk w'' S'' γ'' o'' nk'' where
  os:=k.os.trans h.os
  tape:=k.tape.trans h.tape
  output:=k.output.trans h.output
  size:=Nat.le_trans h.size k.size
  nks:=Nat.le_trans h.nks k.nks
  kept:=fun i hi hn=>by
    rw [k.kept i (Nat.lt_of_lt_of_le hi h.size),h.kept i hi hn];intro hl;rcases h.live i hl with h1 | h1
    · omega
    · exact hn h1
  s:=fun i hi=>k.s i (h.s i hi)
  s_new:=fun i hi=>by
    rcases k.s_new i hi with h1 | h1 | h1
    · exact h.s_new i h1
    · exact .inr (.inl (Nat.le_trans h.size h1))
    · exact .inr (h.live i h1)
  live:=fun g hg=>by
    rcases k.live g hg with h1 | h1
    · exact .inl (Nat.le_trans h.size h1)
    · exact h.live g h1
  keys:=fun t x ht hx=>by
    obtain ⟨y,hy,hk,he⟩:=k.keys t x (Nat.lt_of_lt_of_le ht h.nks) hx;obtain ⟨z,hz,hk',he'⟩:=h.keys t y ht hy;exact ⟨z,hz,AO.kin_trans hk' hk,he.trans he'⟩
theorem Tr.keep {w w':World} {S S':Nat→Prop} {γ γ':Nat→Value} {o o':Nat→Option AO} {nk nk':Nat} (hs:Sto w S γ o nk) (h:Tr w S γ o nk w' S' γ' o' nk') :
    ∀ k,S k→w'.heap[k]?=w.heap[k]?:=by
  intro k hk;refine h.kept k (hs.s_lt k hk) ?_;rintro ⟨t,x,ht,hb⟩;exact (hs.away t x k ht hb).1 hk
theorem Tr.rd {w w':World} {S S':Nat→Prop} {γ γ':Nat→Value} {o o':Nat→Option AO} {nk nk':Nat} (hs:Sto w S γ o nk) (h:Tr w S γ o nk w' S' γ' o' nk') {x:D} {v:Value} (hr:Rd w S x v):Rd w' S' x v:=
 hr.mono h.s (h.keep hs)
theorem lts_get {n:Nat}:∀ {cs:List SV},SV.lts n cs→∀ (i:Nat) (c:SV),cs[i]?=some c→SV.lt n c
 | [],_,i,c,h=>by simp at h
 | c0 :: cs,hl,0,c,h=>by
  simp only [SV.lts] at hl;simp only [List.getElem?_cons_zero,Option.some.injEq] at h;subst h;exact hl.1
 | c0 :: cs,hl,i+1,c,h=>by
  simp only [SV.lts] at hl;exact lts_get hl.2 i c (by simpa using h)
theorem lts_of {n:Nat}:∀ {cs:List SV},(∀ (i:Nat) (c:SV),cs[i]?=some c→SV.lt n c)→SV.lts n cs
 | [],_=>by simp [SV.lts]
 | c0 :: cs,h=>by
  simp only [SV.lts];exact ⟨h 0 c0 rfl,lts_of fun i c hc=>h (i+1) c (by simpa using hc)⟩
mutual
theorem SV.lt_mono {n m:Nat} (hnm:n≤m):∀ {s:SV},s.lt n→s.lt m
 | .loc t _,h=>Nat.lt_of_lt_of_le h hnm
 | .row t,h=>Nat.lt_of_lt_of_le h hnm
 | .rel t _ _,h=>Nat.lt_of_lt_of_le h hnm
 | .raw t,h=>Nat.lt_of_lt_of_le h hnm
 | .view t _ _ _,h=>Nat.lt_of_lt_of_le h hnm
 | .dx _ _,_=>trivial
 | .clo _ fs cs,h=>⟨SV.lts_mono hnm h.1,SV.lts_mono hnm h.2⟩
 | .tup cs,h=>SV.lts_mono hnm h
 | .ag cs,h=>SV.lts_mono hnm h
 | .d _,_=>trivial
 | .el _,_=>trivial
 | .any,_=>trivial
theorem SV.lts_mono {n m:Nat} (hnm:n≤m):∀ {cs:List SV},SV.lts n cs→SV.lts m cs
 | [],_=>trivial
 | c :: cs,h=>⟨SV.lt_mono hnm h.1,SV.lts_mono hnm h.2⟩
end
theorem SR.move {w w':World} {S S':Nat→Prop} {γ γ':Nat→Value} {o o':Nat→Option AO} {nk:Nat} (hS:∀ k,S k→S' k) (hw:∀ k,S k→w'.heap[k]?=w.heap[k]?)
    (hk:∀ t x,t < nk→o' t=some x→∃ y,o t=some y∧AO.kin y x∧γ' t=γ t)
    {s:SV} {v:Value} (h:SR w S γ o s v):s.lt nk→SR w' S' γ' o' s v:=by
  induction h with
  | any v=>exact fun _=>.any v
  | d x v h=>exact fun _=>.d x v (h.mono hS hw)
  | loc t f v h=>
    refine fun hn=>.loc t f v fun cs hcs=>?_;obtain ⟨y,h1,hy,h2⟩:=hk t _ hn hcs;obtain ⟨cs',rfl⟩:=AO.kin_box hy;rw [h2];exact h cs' h1
  | row t v h=>
    refine fun hn=>.row t v fun e z xs hx=>?_;obtain ⟨y,h1,hy,h2⟩:=hk t _ hn hx;obtain ⟨xs',rfl⟩:=AO.kin_row hy;rw [h2];exact h e z xs' h1
  | raw t v h=>
    refine fun hn=>.raw t v fun ob hx=>?_;obtain ⟨y,h1,hy,h2⟩:=hk t _ hn hx;obtain ⟨ob',rfl⟩:=AO.kin_raw hy;rw [h2];exact h ob' h1
  | el x a v h1 h2 h3=>
    refine fun _=>.el x a v (hS _ h1) (h2.mono hS hw) fun j u hu=>?_;rw [cell_of_heap (w:=w)]
    · exact h3 j u hu
    · rw [add_block];exact hw _ h1
  | rel t j f v h=>
    refine fun hn=>.rel t j f v fun e z xs hx=>?_;obtain ⟨y,h1,hy,h2⟩:=hk t _ hn hx;obtain ⟨xs',rfl⟩:=AO.kin_row hy;rw [h2];exact h e z xs' h1
  | view t lo n c v h=>
    refine fun hn=>.view t lo n c v fun e z xs hx=>?_;obtain ⟨y,h1,hy,h2⟩:=hk t _ hn hx;obtain ⟨xs',rfl⟩:=AO.kin_row hy;rw [h2];exact h e z xs' h1
  | dx z xs v h hc=>exact fun _=>.dx z xs v (h.mono hS hw) hc
  | clo f fs caps us vs hu _ hv _ ih1 ih2=>exact fun hn=>.clo f fs caps us vs hu (fun i c u h1 h2=>ih1 i c u h1 h2 (lts_get hn.1 i c h1)) hv fun i c u h1 h2=>ih2 i c u h1 h2 (lts_get hn.2 i c h1)
  | tup xs vs hv _ ih=>exact fun hn=>.tup xs vs hv fun i c u h1 h2=>ih i c u h1 h2 (lts_get hn i c h1)
  | ag xs vs hv _ hu ih=>exact fun hn=>.ag xs vs hv (fun i c u h1 h2=>ih i c u h1 h2 (lts_get hn i c h1)) hu
theorem SR.tr {w w':World} {S S':Nat→Prop} {γ γ':Nat→Value} {o o':Nat→Option AO} {nk nk':Nat} (hs:Sto w S γ o nk) (ht:Tr w S γ o nk w' S' γ' o' nk')
 {s:SV} {v:Value} (h:SR w S γ o s v) (hn:s.lt nk):SR w' S' γ' o' s v:=h.move ht.s (ht.keep hs) ht.keys hn
def upd {α:Type} (f:Nat→α) (t:Nat) (v:α):Nat→α:=fun u=>if u=t then v else f u
theorem upd_same {α:Type} (f:Nat→α) (t:Nat) (v:α):upd f t v t=v:=if_pos rfl
theorem upd_ne {α:Type} (f:Nat→α) {t u:Nat} (v:α) (h:u≠t):upd f t v u=f u:=if_neg h
structure St where
 sl:Nat→SV
 o:Nat→Option AO
 nk:Nat
structure Ent where
 w:World
 S:Nat→Prop
 γ:Nat→Value
 o:Nat→Option AO
 nk:Nat
 n:Nat
structure Rl (E:Ent) (s:St) (a:Act) (w:World) (S:Nat→Prop) (γ:Nat→Value):Prop where
 sto:Sto w S γ s.o s.nk
 tr:Tr E.w E.S E.γ E.o E.nk w S γ s.o s.nk
 sl:∀ u,SR w S γ s.o (s.sl u) (a.tmps.getD u undef)
 slt:∀ u,(s.sl u).lt s.nk
 df:a.defers=[]
 nn:a.tmps.size=E.n
def Rel (E:Ent) (s:St) (a:Act) (w:World):Prop:=∃ S γ,Rl E s a w S γ
def WP (P:Program) (n k0:Nat) (c:Code) (s:St) (Q:Exit→St→Prop):Prop:=
 ∀ E a w,E.n=n→E.nk=k0→Rel E s a w→c.wp P (fun e a' w'=>∃ s',Rel E s' a' w'∧Q e s') a w
def Does (P:Program) (f:FuncId) (args:Array Value) (w:World) (R:Value→World→Prop):Prop:=
 match (callFunc f args).run P w with
 | .ok (.value v) w'=>R v w'
 | .ok (.enter g asx) w'=>Calls P g asx w' fun e w''=>∃ v,e=.returned v∧R v w''
 | .ok (.row r asx) w'=>Rows P r asx w' R
 | _=>False
theorem Does.mono {P:Program} {f:FuncId} {args:Array Value} {w:World} {R R':Value→World→Prop} (h:Does P f args w R) (hr:∀ v w',R v w'→R' v w'):Does P f args w R':=by
 unfold Does at *;generalize (callFunc f args).run P w=r at *;split at h
 ·exact hr _ _ h
 ·exact h.mono fun e w'' ⟨v,hv,hR⟩=>⟨v,hv,hr _ _ hR⟩
 ·exact h.mono hr
 ·exact h.elim
def Post (P:Program) (w:World) (S:Nat→Prop) (γ:Nat→Value) (o:Nat→Option AO) (nk:Nat) (Q:SV→(Nat→Option AO)→Nat→Prop) (v:Value) (w':World):Prop:=
 ∃ r o' nk' S' γ',Q r o' nk'∧Sto w' S' γ' o' nk'∧Tr w S γ o nk w' S' γ' o' nk'∧SR w' S' γ' o' r v∧r.lt nk'
def Spec (P:Program) (f:FuncId) (args:List SV) (o:Nat→Option AO) (nk:Nat) (Q:SV→(Nat→Option AO)→Nat→Prop):Prop:=
 ∀ w S γ (vs:List Value),Sto w S γ o nk→vs.length=args.length→(∀ (i:Nat) (c:SV) (v:Value),args[i]?=some c→vs[i]?=some v→SR w S γ o c v)→SV.lts nk args→
  Does P f vs.toArray w (Post P w S γ o nk Q)
theorem Spec.mono {P:Program} {f:FuncId} {args:List SV} {o:Nat→Option AO} {nk:Nat} {Q Q':SV→(Nat→Option AO)→Nat→Prop}
    (h:Spec P f args o nk Q) (hq:∀ r o' nk',Q r o' nk'→Q' r o' nk'):Spec P f args o nk Q':=fun w S γ vs h1 h2 h3 h4=>
  (h w S γ vs h1 h2 h3 h4).mono fun v w' ⟨r,o',nk',S',γ',q,rest⟩=>⟨r,o',nk',S',γ',hq _ _ _ q,rest⟩
section
variable {P:Program} {n k0:Nat} {s:St} {Q:Exit→St→Prop}
theorem WP.mono {c:Code} {Q':Exit→St→Prop} (h:WP P n k0 c s Q) (hq:∀ e s,Q e s→Q' e s):WP P n k0 c s Q':=fun E a w h1 h2 h3=>
 Go.wp_mono (h E a w h1 h2 h3) fun e a' w' ⟨s',hr,q⟩=>⟨s',hr,hq _ _ q⟩
theorem WP.skip (h:Q .normal s):WP P n k0 .skip s Q:=fun E a w _ _ hr=>wp_skip ⟨s,hr,h⟩
theorem WP.ret (h:Q .ret s):WP P n k0 .ret s Q:=fun E a w _ _ hr=>wp_ret ⟨s,hr,h⟩
theorem WP.exit {id:Nat} (h:Q (.exit id) s):WP P n k0 (.exit id) s Q:=fun E a w _ _ hr=>wp_exit ⟨s,hr,h⟩
def Qthen (K:St→Prop) (Q:Exit→St→Prop):Exit→St→Prop
 | .normal,s=>K s
 | e,s=>Q e s
theorem WP.seq {x y:Code} (h:∀ K:St→Prop,(∀ s',WP P n k0 y s' Q→K s')→WP P n k0 x s (Qthen K Q)):WP P n k0 (.seq x y) s Q:=fun E a w h1 h2 h3=>by
 refine wp_seq (Go.wp_mono (h (fun s'=>WP P n k0 y s' Q) (fun _ h=>h) E a w h1 h2 h3) ?_);rintro e a' w' ⟨s',hr,q⟩;cases e with
 | normal=>exact q E a' w' h1 h2 hr
 | _=>exact ⟨s',hr,q⟩
def Qblock (id:Nat) (Q:Exit→St→Prop):Exit→St→Prop
 | .exit id',s=>if id'=id then Q .normal s else Q (.exit id') s
 | e,s=>Q e s
theorem WP.block {id:Nat} {c:Code} (h:WP P n k0 c s (Qblock id Q)):WP P n k0 (.block id c) s Q:=fun E a w h1 h2 h3=>by
 refine wp_block (Go.wp_mono (h E a w h1 h2 h3) ?_);rintro e a' w' ⟨s',hr,q⟩;cases e with
 | exit id'=>
  simp only [Exit.inBlock,Qblock] at *;split
  ·rename_i h;rw [if_pos h] at q;exact ⟨s',hr,q⟩
  ·rename_i h;rw [if_neg h] at q;exact ⟨s',hr,q⟩
 | _=>exact ⟨s',hr,q⟩
theorem WP.loop {ι:Type} {c:Code} (I:ι→St) (A:ι→Prop) (μ:ι→Nat) (round:∀ i,A i→WP P n k0 c (I i) (Qthen (fun s'=>∃ j,A j∧μ j < μ i∧s'=I j) Q)) (i:ι) (hi:A i) (hs:s=I i):WP P n k0 (.loop c) s Q:=by
  subst hs;intro E a w h1 h2 h3 b k cs;have key:∀ m i a w,μ i=m→A i→Rel E (I i) a w→
      ∃ e a' w',(∃ s',Rel E s' a' w'∧Q e s')∧Arrives P (lone (b.at a (.code c :: .inLoop c :: k)) cs w) b k cs e a' w':=by
    intro m
    induction m using Nat.strongRecOn with
    | _ m ih=>
      intro i a w hm hA hI;obtain ⟨e,a₁,w₁,⟨s1,hr1,hq⟩,harr⟩:=round i hA E a w h1 h2 hI b (.inLoop c :: k) cs;cases e with
      | normal=>
        obtain ⟨j,hAj,hlt,rfl⟩:=hq;obtain ⟨e₂,a₂,w₂,hq₂,harr₂⟩:=ih (μ j) (hm ▸ hlt) j a₁ w₁ rfl hAj hr1;exact ⟨e₂,a₂,w₂,hq₂,.of_steps (Steps.trans harr (.one step_inLoop)) harr₂⟩
      | exit id=>exact ⟨_,a₁,w₁,⟨s1,hr1,hq⟩,.pass (x:=.inLoop c) rfl (fun _ _=>.inl (by simp)) harr⟩
      | goto l=>exact ⟨_,a₁,w₁,⟨s1,hr1,hq⟩,.pass (x:=.inLoop c) rfl (fun _ _=>.inl (by simp)) harr⟩
      | ret=>exact ⟨_,a₁,w₁,⟨s1,hr1,hq⟩,.pass (x:=.inLoop c) rfl (fun _ _=>.inl (by simp)) harr⟩
      | panic ch=>exact ⟨_,a₁,w₁,⟨s1,hr1,hq⟩,.pass (x:=.inLoop c) rfl (fun _ _=>.inl (by simp)) harr⟩
      | outgrown=>exact ⟨_,a₁,w₁,⟨s1,hr1,hq⟩,.pass (x:=.inLoop c) rfl (fun _ _=>.inl (by simp)) harr⟩
  obtain ⟨e,a',w',hq,harr⟩:=key _ i a w rfl hi h3;exact ⟨e,a',w',hq,.of_steps (.one step_loop) harr⟩
theorem WP.of {c:Code} {s':St} (h:∀ E a w,E.nk=k0→Rel E s a w→Rel E s' a w) (k:WP P n k0 c s' Q):WP P n k0 c s Q:=fun E a w h1 h2 h3=>k E a w h1 h2 (h E a w h2 h3)
end
mutual
def SV.ren (τ:Nat→Nat):SV→SV
 | .loc t f=>.loc (τ t) f
 | .row t=>.row (τ t)
 | .rel t j f=>.rel (τ t) j f
 | .raw t=>.raw (τ t)
 | .view t lo n c=>.view (τ t) lo n c
 | .dx z xs=>.dx z xs
 | .clo g fs cs=>.clo g (SV.rens τ fs) (SV.rens τ cs)
 | .tup cs=>.tup (SV.rens τ cs)
 | .ag cs=>.ag (SV.rens τ cs)
 | .d x=>.d x
 | .el x=>.el x
 | .any=>.any
def SV.rens (τ:Nat→Nat):List SV→List SV
 | []=>[]
 | c :: cs=>SV.ren τ c :: SV.rens τ cs
end
def AO.ren (τ:Nat→Nat):AO→AO
 | .box cs=>.box (SV.rens τ cs)
 | .row e z xs=>.row e z xs
 | .raw ob=>.raw ob
def AO.lt (n:Nat):AO→Prop
 | .box cs=>SV.lts n cs
 | .row _ _ _=>True
 | .raw _=>True
theorem rens_get {τ:Nat→Nat}:∀ {cs:List SV} (i:Nat),(SV.rens τ cs)[i]?=(cs[i]?).map (SV.ren τ)
 | [],i=>by simp [SV.rens]
 | c :: cs,0=>by simp [SV.rens]
 | c :: cs,i+1=>by simp [SV.rens,rens_get i]
theorem rens_length {τ:Nat→Nat}:∀ {cs:List SV},(SV.rens τ cs).length=cs.length
 | []=>rfl
 | c :: cs=>by simp [SV.rens,rens_length (cs:=cs)]
mutual
theorem SV.ren_id:∀ s:SV,s.ren id=s
 | .loc t f=>rfl
 | .row t=>rfl
 | .rel t j f=>rfl
 | .raw t=>rfl
 | .view t lo n c=>rfl
 | .dx z xs=>rfl
 | .clo g fs cs=>by simp [SV.ren,SV.rens_id fs,SV.rens_id cs]
 | .tup cs=>by simp [SV.ren,SV.rens_id cs]
 | .ag cs=>by simp [SV.ren,SV.rens_id cs]
 | .d x=>rfl
 | .el x=>rfl
 | .any=>rfl
theorem SV.rens_id:∀ cs:List SV,SV.rens id cs=cs
 | []=>rfl
 | c :: cs=>by simp [SV.rens,SV.ren_id c,SV.rens_id cs]
end
theorem AO.ren_id (x:AO):x.ren id=x:=by cases x <;> simp [AO.ren,SV.rens_id]
theorem SR.of_ren {w:World} {S:Nat→Prop} {γ:Nat→Value} {o o':Nat→Option AO} {τ:Nat→Nat} (hk:∀ t x,o' t=some x→o (τ t)=some (x.ren τ))
    {sv:SV} {v:Value} (h:SR w S γ o sv v):∀ c:SV,c.ren τ=sv→SR w S (γ∘τ) o' c v:=by
  induction h with
  | any v=>intro c hc;cases c <;> simp [SV.ren] at hc;exact .any v
  | d x v h=>intro c hc;cases c <;> simp [SV.ren] at hc;subst hc;exact .d _ v h
  | loc t f v h=>
    intro c hc;cases c <;> simp [SV.ren] at hc
    obtain ⟨rfl,rfl⟩:=hc;exact .loc _ _ v fun cs hcs=>h _ (hk _ _ hcs)
  | row t v h=>
    intro c hc;cases c <;> simp [SV.ren] at hc
    subst hc;exact .row _ v fun e z xs hx=>h e z xs (hk _ _ hx)
  | raw t v h=>
    intro c hc;cases c <;> simp [SV.ren] at hc
    subst hc;exact .raw _ v fun ob hx=>h ob (hk _ _ hx)
  | view t lo n k v h=>
    intro c hc;cases c <;> simp [SV.ren] at hc
    obtain ⟨rfl,rfl,rfl,rfl⟩:=hc;exact .view _ _ _ _ v fun e z xs hx=>h e z xs (hk _ _ hx)
  | dx z xs v h hk2=>
    intro c hc;cases c <;> simp [SV.ren] at hc
    obtain ⟨rfl,rfl⟩:=hc;exact .dx _ _ v h hk2
  | el x a v h1 h2 h3=>intro c hc;cases c <;> simp [SV.ren] at hc;subst hc;exact .el _ a v h1 h2 h3
  | rel t j f v h=>
    intro c hc;cases c <;> simp [SV.ren] at hc
    obtain ⟨rfl,rfl,rfl⟩:=hc;exact .rel _ _ _ v fun e z xs hx=>h e z xs (hk _ _ hx)
  | clo f fs cs us vs hu _ hv _ ih1 ih2=>
    intro c hc;cases c <;> simp [SV.ren] at hc
    obtain ⟨rfl,rfl,rfl⟩:=hc;refine .clo _ _ _ us vs (by rw [hu,rens_length]) (fun i c u h1 h2=>ih1 i _ u ?_ h2 c rfl) (by rw [hv,rens_length]) (fun i c u h1 h2=>ih2 i _ u ?_ h2 c rfl)
    · rw [rens_get,h1];rfl
    · rw [rens_get,h1];rfl
  | tup cs vs hv _ ih=>
    intro c hc;cases c <;> simp [SV.ren] at hc
    subst hc;refine .tup _ vs (by rw [hv,rens_length]) (fun i c u h1 h2=>ih i _ u ?_ h2 c rfl);rw [rens_get,h1];rfl
  | ag cs vs hv _ hu ih=>
    intro c hc;cases c <;> simp [SV.ren] at hc
    subst hc;refine .ag _ vs (by rw [hv,rens_length]) (fun i c u h1 h2=>ih i _ u ?_ h2 c rfl) hu;rw [rens_get,h1];rfl
structure Wko (k0:Nat) (τ:Nat→Nat) (o o':Nat→Option AO) (nk':Nat):Prop where
 nks:k0≤nk'
 o:∀ t x,o' t=some x→t < nk'∧o (τ t)=some (x.ren τ)∧x.lt nk'
 inj:∀ t t' x x',o' t=some x→o' t'=some x'→τ t=τ t'→t=t'
 old:∀ t x,t < k0→o' t=some x→τ t=t
theorem Wko.sto {w:World} {S:Nat→Prop} {γ:Nat→Value} {o o':Nat→Option AO} {nk nk' k0:Nat} {τ:Nat→Nat} (h:Sto w S γ o nk) (k:Wko k0 τ o o' nk'):Sto w S (γ∘τ) o' nk' where
 s_lt:=h.s_lt
 o_lt:=fun t x hx=>(k.o t x hx).1
 box:=fun t cs hc=>by
  obtain ⟨h1,h2,h3⟩:=k.o t _ hc;obtain ⟨⟨g,arr,ty,h4,h5,h6,h7⟩,_⟩:=h.box (τ t) _ h2;refine ⟨⟨g,arr,ty,h4,h5,by rw [h6,rens_length],fun i c u h8 h9=>(h7 i _ u ?_ h9).of_ren (fun t x hx=>(k.o t x hx).2.1) c rfl⟩,h3⟩;rw [rens_get,h8];rfl
 row:=fun t e z xs hx=>by
  obtain ⟨h1,h2,h3⟩:=k.o t _ hx;exact h.row (τ t) e z xs h2
 raw:=fun t ob hx=>by
  obtain ⟨h1,h2,h3⟩:=k.o t _ hx;exact h.raw (τ t) ob h2
 away:=fun t x g hx hg=>by
  obtain ⟨h1,h2,h3⟩:=k.o t _ hx;exact h.away (τ t) _ g h2 hg
 apart:=fun t t' x x' g hne hx hx' hg hg'=>by
  obtain ⟨_,h2,_⟩:=k.o t _ hx;obtain ⟨_,h2',_⟩:=k.o t' _ hx';exact h.apart (τ t) (τ t') _ _ g (fun e=>hne (k.inj t t' _ _ hx hx' e)) h2 h2' hg hg'
theorem AO.kin_ren (τ:Nat→Nat) (x:AO):(x.ren τ).kin x:=by cases x <;> simp [AO.ren,AO.kin]
theorem Wko.tr {w:World} {S:Nat→Prop} {γ:Nat→Value} {o o':Nat→Option AO} {nk nk' k0:Nat} {τ:Nat→Nat} {w0:World} {S0:Nat→Prop} {γ0:Nat→Value} {o0:Nat→Option AO}
    (h:Tr w0 S0 γ0 o0 k0 w S γ o nk) (k:Wko k0 τ o o' nk'):Tr w0 S0 γ0 o0 k0 w S (γ∘τ) o' nk' where
  os:=h.os
  tape:=h.tape
  output:=h.output
  size:=h.size
  nks:=k.nks
  kept:=h.kept
  s:=h.s
  s_new:=h.s_new
  live:=fun g ⟨t,x,hx,hg⟩=>h.live g ⟨τ t,_,(k.o t x hx).2.1,hg⟩
  keys:=fun t x ht hx=>by
    have h1:=(k.o t x hx).2.1;have h0:=k.old t x ht hx;rw [h0] at h1;obtain ⟨y,hy,hk,hg⟩:=h.keys t _ ht h1;exact ⟨y,hy,AO.kin_trans hk (AO.kin_ren τ x),by simp [Function.comp,h0,hg]⟩
structure Wk (k0:Nat) (τ:Nat→Nat) (s s':St):Prop where
 ob:Wko k0 τ s.o s'.o s'.nk
 sl:∀ u,s'.sl u=.any∨(s'.sl u).ren τ=s.sl u∧(s'.sl u).lt s'.nk
theorem Rel.wk {E:Ent} {s s':St} {τ:Nat→Nat} {a:Act} {w:World} (h:Rel E s a w) (k:Wk E.nk τ s s'):Rel E s' a w:=by
 obtain ⟨S,γ,h⟩:=h;refine ⟨S,γ∘τ,k.ob.sto h.sto,k.ob.tr h.tr,fun u=>?_,fun u=>?_,h.df,h.nn⟩
 ·rcases k.sl u with h1 | ⟨h1,h2⟩
  ·rw [h1];exact .any _
  ·exact (h.sl u).of_ren (fun t x hx=>(k.ob.o t x hx).2.1) _ h1
 ·rcases k.sl u with h1 | ⟨h1,h2⟩
  ·rw [h1];trivial
  ·exact h2
theorem WP.wk {P:Program} {n k0:Nat} {s s':St} {Q:Exit→St→Prop} {c:Code} {τ:Nat→Nat} (k:Wk k0 τ s s') (h:WP P n k0 c s' Q):WP P n k0 c s Q:=
 WP.of (fun E a w he hr=>hr.wk (he ▸ k)) h
theorem Spec.wk {P:Program} {f:FuncId} {args:List SV} {o:Nat→Option AO} {nk:Nat} {Q Q':SV→(Nat→Option AO)→Nat→Prop}
    (h:Spec P f args o nk Q) (hq:∀ r o' nk',Q r o' nk'→∃ τ r1 o1 nk1,Wko nk τ o' o1 nk1∧r1.ren τ=r∧r1.lt nk1∧Q' r1 o1 nk1):Spec P f args o nk Q':=fun w S γ vs h1 h2 h3 h4=>by
  refine (h w S γ vs h1 h2 h3 h4).mono ?_;rintro v w' ⟨r,o',nk',S',γ',q,hs,ht,hr,hl⟩;obtain ⟨τ,r1,o1,nk1,hk,h5,h6,h7⟩:=hq _ _ _ q;exact ⟨r1,o1,nk1,S',γ' ∘ τ,h7,hk.sto hs,hk.tr ht,hr.of_ren (fun t x hx=>(hk.o t x hx).2.1) r1 h5,h6⟩
def D.part (lo n:Nat):D→SV
 | .sl z xs=>if lo+n≤xs.length then .d (.sl z ((xs.drop lo).take n)) else .any
 | _=>.any
theorem D.part_lt (x:D) (lo n k:Nat):(x.part lo n).lt k:=by
 unfold D.part;split
 ·split <;> trivial
 ·trivial
def SV.frz (t:Nat) (x:D):SV→SV
 | .row u=>if u=t then .d x else .row u
 | .view u lo n c=>if u=t then x.part lo n else .view u lo n c
 | c=>c
theorem Addr_add_add2 (a:Addr) (m n:Nat):(a.add m).add n=a.add (m+n):=by
 unfold Addr.add;by_cases hm:m=0
 ·subst hm;simp
 ·by_cases hn:n=0
  ·subst hn;simp [hm]
  ·simp [hm,hn,Nat.add_assoc]
theorem Rd.part {w:World} {S:Nat→Prop} {z:Nat} {xs:List D} {a:Addr} {m k lo n p:Nat} (h:Rd w S (.sl z xs) (.slice (some a) m k)) (hlo:lo+n≤xs.length) (hn:n≤p) (hp:p≤9223372036854775807) :
    Rd w S (.sl z ((xs.drop lo).take n)) (.slice (some (a.add (lo * z))) n p):=by
  have hlen:((xs.drop lo).take n).length=n:=by simp;omega
  cases h with
  | emp=>
    have:n=0:=by simp at hlo;omega
    subst this;simpa using Rd.emp z _ p hp
  | sl _ _ _ _ vs hl hm hS hv hr hz hc=>
    have hvl:((vs.drop lo).take n).length=n:=by simp;omega
    have hvi:∀ (i:Nat) (v:Value),((vs.drop lo).take n)[i]?=some v→vs[lo+i]?=some v:=fun i v h=>by
      rw [List.getElem?_take] at h;split at h
      · rwa [List.getElem?_drop] at h
      · cases h
    have:=Rd.sl (w:=w) (S:=S) z ((xs.drop lo).take n) (a.add (lo * z)) p ((vs.drop lo).take n) (by omega) hp (by rw [add_block];exact hS) (by rw [hvl,hlen])
      (fun i x v h1 h2=>by
        refine hr (lo+i) x v ?_ (hvi i v h2);rw [List.getElem?_take] at h1;split at h1
        · rwa [List.getElem?_drop] at h1
        · cases h1)
      (fun i v h2=>hz (lo+i) v (hvi i v h2))
      (fun i j v u h1 h2=>by
        have:=hc (lo+i) j v u (hvi i v h1) h2;rw [Addr_add_add2,← this];congr 2;rw [Nat.add_mul,Nat.add_assoc])
    rwa [hlen] at this
theorem RowAt.rd {w:World} {S:Nat→Prop} {v:Value} {e:TypeId} {z:Nat} {xs:List D} (h:RowAt w S v e z xs) :
    Rd w (fun k=>S k∨blk v=some k) (.sl z xs) v:=by
  obtain ⟨vs,⟨h1,h2⟩,hv,hr,hz⟩:=h.out;have hpos:∀ i,((vs.take i).flatMap fun v=>v.cells.toList).length=i * z∨vs.length < i:=by
    intro i
    induction i with
    | zero=>simp
    | succ i ih=>
      rcases ih with ih | ih
      · rcases Nat.lt_or_ge i vs.length with hlt | hge
        · left;rw [List.take_succ_eq_append_getElem hlt,List.flatMap_append,List.length_append,ih];simp only [List.flatMap_cons,List.flatMap_nil,List.append_nil,Array.length_toList];rw [hz i _ (List.getElem?_eq_getElem hlt)];rw [Nat.add_mul,Nat.one_mul]
        · right;omega
      · right;omega
  rcases h2 with ⟨rfl,hn⟩ | ⟨g,cap,cur,rfl,hb,hg,hle,hm,hsz,htk⟩
  · have:xs=[]:=List.eq_nil_of_length_eq_zero hn;subst this;exact .emp z none 0 (by omega)
  · simp only [maxLen] at hm;refine .sl z xs _ cap vs hle (by omega) (.inr rfl) hv (fun i x u h3 h4=>(hr i x u h3 h4).mono (fun _ h=>.inl h) (fun _ _=>rfl)) hz ?_;intro i j u c hi hj;have hcell:(cellsOf vs)[i * z+j]?=some c:=by
      unfold cellsOf;have hlt:i < vs.length:=(List.getElem?_eq_some_iff.1 hi).1;have hsplit:vs=vs.take i++u :: vs.drop (i+1):=by
        have:vs[i]=u:=(List.getElem?_eq_some_iff.1 hi).2;rw [← this,← List.drop_eq_getElem_cons hlt,List.take_append_drop]
      rw [hsplit,List.flatMap_append,List.flatMap_cons];have hlen:((vs.take i).flatMap fun v=>v.cells.toList).length=i * z:=by
        rcases hpos i with h | h
        · exact h
        · omega
      rw [List.getElem?_append_right (by omega),hlen,Nat.add_sub_cancel_left];have hj':j < u.cells.toList.length:=by
        rw [Array.length_toList];exact (Array.getElem?_eq_some_iff.1 hj).1
      rw [List.getElem?_append_left hj'];simpa using hj
    have hw:=World.ownsRow.cells (w:=w) (base:=0) (e:=e) (size:=z) (v:=.slice (some ⟨g,0,none⟩) xs.length cap) (n:=xs.length) (xs:=cellsOf vs) ⟨h1,.inr ⟨g,cap,cur,rfl,hb,hg,hle,by simp only [maxLen];omega,hsz,htk⟩⟩ (g:=g) rfl (i * z+j) c hcell;exact hw
theorem Sto.freeze {w:World} {S:Nat→Prop} {γ:Nat→Value} {o:Nat→Option AO} {nk:Nat} (h:Sto w S γ o nk) {t:Nat} {e:TypeId} {z:Nat} {xs:List D} (ht:o t=some (.row e z xs)) :
    Sto w (fun k=>S k∨blk (γ t)=some k) γ (upd o t none) nk∧Tr w S γ o nk w (fun k=>S k∨blk (γ t)=some k) γ (upd o t none) nk∧Rd w (fun k=>S k∨blk (γ t)=some k) (.sl z xs) (γ t):=by
  have hup:∀ u x,upd o t none u=some x→u≠t∧o u=some x:=by
    intro u x hx;unfold upd at hx;split at hx
    · cases hx
    · rename_i hne;exact ⟨hne,hx⟩
  have hS:∀ k,S k→S k∨blk (γ t)=some k:=fun _ h=>.inl h;have hkeys:∀ u x,u < nk→upd o t none u=some x→∃ y,o u=some y∧AO.kin y x∧γ u=γ u:=fun u x _ hx=>⟨x,(hup u x hx).2,AO.kin_refl x,rfl⟩;refine ⟨⟨?_,?_,?_,?_,fun u ob hx=>(h.raw u ob (hup u _ hx).2).kept hS (fun _ _=>rfl) (fun _ _=>rfl),?_,?_⟩,⟨rfl,rfl,rfl,Nat.le_refl _,Nat.le_refl _,fun _ _ _=>rfl,hS,?_,?_,hkeys⟩,(h.row t e z xs ht).rd⟩
  · rintro k (hk | hk)
    · exact h.s_lt k hk
    · exact (h.away t _ k ht hk).2
  · exact fun u x hx=>h.o_lt u x (hup u x hx).2
  · intro u cs hc;obtain ⟨⟨g,arr,ty,h4,h5,h6,h7⟩,hl⟩:=h.box u cs (hup u _ hc).2;exact ⟨⟨g,arr,ty,h4,h5,h6,fun i c v h8 h9=>(h7 i c v h8 h9).move (nk:=nk) hS (fun _ _=>rfl) hkeys (lts_get hl i c h8)⟩,hl⟩
  · intro u e' z' ys hy;obtain ⟨vs,h1,h2,h3,h4⟩:=(h.row u e' z' ys (hup u _ hy).2).out;exact ⟨vs,h1,h2,fun i x v h5 h6=>(h3 i x v h5 h6).mono hS (fun _ _=>rfl),h4⟩
  · intro u x g hx hg;obtain ⟨hne,hx'⟩:=hup u x hx;refine ⟨?_,(h.away u x g hx' hg).2⟩;rintro (hk | hk)
    · exact (h.away u x g hx' hg).1 hk
    · exact h.apart u t x _ g hne hx' ht hg hk
  · exact fun u u' x x' g hne hx hx' hg hg'=>h.apart u u' x x' g hne (hup u x hx).2 (hup u' x' hx').2 hg hg'
  · rintro k (hk | hk)
    · exact .inl hk
    · exact .inr (.inr ⟨t,_,ht,hk⟩)
  · rintro g ⟨u,x,hx,hg⟩;exact .inr ⟨u,x,(hup u x hx).2,hg⟩
theorem SV.frz_lt {n t:Nat} {x:D}:∀ {c:SV},c.lt n→(c.frz t x).lt n
 | .row u,h=>by
  simp only [SV.frz];split
  ·trivial
  ·exact h
 | .view u _ _ _,h=>by
  simp only [SV.frz];split
  ·exact D.part_lt _ _ _ _
  ·exact h
 | .dx _ _,h=>h
 | .loc _ _,h=>h
 | .rel _ _ _,h=>h
 | .raw _,h=>h
 | .clo _ _ _,h=>h
 | .tup _,h=>h
 | .ag _,h=>h
 | .d _,h=>h
 | .el _,h=>h
 | .any,h=>h
theorem SR.frz {w:World} {S:Nat→Prop} {γ:Nat→Value} {o:Nat→Option AO} {nk:Nat} (hs:Sto w S γ o nk) {t:Nat} {e:TypeId} {z:Nat} {xs:List D} (ht:o t=some (.row e z xs))
    {c:SV} {v:Value} (h:SR w S γ o c v) (hl:c.lt nk):SR w (fun k=>S k∨blk (γ t)=some k) γ (upd o t none) (c.frz t (.sl z xs)) v:=by
  obtain ⟨k1,k2,k3⟩:=hs.freeze ht;have h1:=h.tr hs k2 hl;cases c with
  | row u=>
    simp only [SV.frz];split
    · rename_i he;subst he;cases h with
      | row _ v hv=>rw [hv e z xs ht];exact .d _ _ k3
    · exact h1
  | view u lo n c=>
    simp only [SV.frz];split
    · rename_i he;subst he;cases h with
      | view _ _ _ _ v hv=>
        simp only [D.part];split
        · rename_i hle;rcases hv e z xs ht with ⟨_,rfl,rfl,rfl⟩ | ⟨g,m,k,p,hu,h2,h3,h4,_,h5⟩
          · exact .d _ _ (by simpa using Rd.emp z none 0 (by omega))
          · have hk:k≤9223372036854775807:=by
              rw [hu] at k3;cases k3 <;> assumption
            rw [hu] at k3;rcases h5 with rfl | ⟨rfl,f,_,rfl⟩
            · have:=Rd.part k3 hle h2 (by omega);refine .d _ _ ?_;have e0:(⟨g,0,none⟩:Addr).add (lo * z)=⟨g,lo * z,none⟩:=by unfold Addr.add;split <;> simp_all
              rw [e0] at this;rw [hu];exact this
            · have:n=0:=by omega
              subst this;exact .d _ _ (by simpa using Rd.emp z _ 0 (by omega))
        · exact .any _
    · exact h1
  | _=>exact h1
theorem Rel.freeze {E:Ent} {s:St} {a:Act} {w:World} (h:Rel E s a w) {t:Nat} {e:TypeId} {z:Nat} {xs:List D} (ht:s.o t=some (.row e z xs)) :
    Rel E { sl:=fun u=>(s.sl u).frz t (.sl z xs),o:=upd s.o t none,nk:=s.nk } a w:=by
  obtain ⟨S,γ,h⟩:=h;obtain ⟨h1,h2,h3⟩:=h.sto.freeze ht;exact ⟨_,γ,h1,h.tr.trans h2,fun u=>(h.sl u).frz h.sto ht (h.slt u),fun u=>SV.frz_lt (h.slt u),h.df,h.nn⟩
theorem WP.freeze {P:Program} {n k0:Nat} {s:St} {Q:Exit→St→Prop} {c:Code} {t:Nat} {e:TypeId} {z:Nat} {xs:List D} (ht:s.o t=some (.row e z xs))
    (h:WP P n k0 c { sl:=fun u=>(s.sl u).frz t (.sl z xs),o:=upd s.o t none,nk:=s.nk } Q):WP P n k0 c s Q:=
  WP.of (fun E a w _ hr=>hr.freeze ht) h
theorem Spec.freeze {P:Program} {f:FuncId} {args:List SV} {o:Nat→Option AO} {nk:Nat} {Q:SV→(Nat→Option AO)→Nat→Prop} {t:Nat} {e:TypeId} {z:Nat} {xs:List D} (ht:o t=some (.row e z xs))
    (h:Spec P f (args.map (SV.frz t (.sl z xs))) (upd o t none) nk Q):Spec P f args o nk Q:=fun w S γ vs h1 h2 h3 h4=>by
  obtain ⟨k1,k2,k3⟩:=h1.freeze ht;refine (h w _ γ vs k1 (by simpa using h2) (fun i c v hc hv=>?_) (lts_of fun i c hc=>?_)).mono ?_
  · rw [List.getElem?_map] at hc;obtain ⟨c0,hc0,rfl⟩:=Option.map_eq_some_iff.1 hc;exact (h3 i c0 v hc0 hv).frz h1 ht (lts_get h4 i c0 hc0)
  · rw [List.getElem?_map] at hc;obtain ⟨c0,hc0,rfl⟩:=Option.map_eq_some_iff.1 hc;exact SV.frz_lt (lts_get h4 i c0 hc0)
  · rintro v w' ⟨r,o',nk',S',γ',q,hs,ht',hr,hl⟩;exact ⟨r,o',nk',S',γ',q,hs,k2.trans ht',hr,hl⟩
inductive TK where
 | int (k:IntKind)
 | bool
 | str
 | struct (fs:List (Nat×Nat))
 | arr (n:Nat) (e:Nat)
 | slice (e:Nat)
 | ptr (e:Nat)
 | map (k e:Nat)
 | fn
 | oth
def TK.agg:TK→Bool
 | .struct _=>true
 | .arr _ _=>true
 | _=>false
structure TI where
 k:TK
 sz:Nat
 bys:Nat
 z:Option (List D)
 eq:Bool:=false
abbrev Tab:=Nat→Option TI
def aggB (P:Program) (t:TypeId):Bool:=
 match P.underlying t with
 | some (.struct _)=>true
 | some (.array _ _)=>true
 | _=>false
def tkOf (P:Program) (t:TypeId):Option TK:=
 match P.underlying t with
 | some (.int k)=>some (.int k)
 | some .bool=>some .bool
 | some .string=>some .str
 | some (.struct fs)=>if fs.toList.all (fun f=>(P.info? f.type).isSome)=true then some (.struct (fs.toList.map fun f=>(f.offset,f.type))) else none
 | some (.array n e)=>some (.arr n e)
 | some (.slice e)=>some (.slice e)
 | some (.pointer e)=>some (.ptr e)
 | some (.map k e)=>some (.map k e)
 | some (.func _ _ _)=>some .fn
 | some _=>some .oth
 | none=>none
def D.zv:D→Value
 | .int k n=>.int k n
 | .bool b=>.bool b
 | .str s=>.string ⟨s.toArray⟩
 | .nil=>.slice none 0 0
 | .nilp=>.pointer none
 | .nilk k=>nilV k
 | _=>undef
def D.zok:D→Bool
 | .int _ _=>true
 | .bool _=>true
 | .str s=>decide (s.length≤9223372036854775807)
 | .nil=>true
 | .nilp=>true
 | .nilk _=>true
 | _=>false
def zvOf (ag:Bool) (l:List D):Value:=
 if ag then .agg (l.map D.zv).toArray else match l with
 | [d]=>d.zv
 | _=>undef
def eqB (P:Program) (t:TypeId):Bool:=
 match P.underlying t with
 | some (.struct fs) => !P.stoodInHeld t && (!P.eqGuardType P.depth t && fs.toList.all fun f => f.name != "_")
 | _=>false
structure TOk (P:Program) (t:TypeId) (i:TI):Prop where
 k:tkOf P t=some i.k
 s:(P.info? t).map (fun x=>(x.size,x.bytes))=some (i.sz,i.bys)
 z:∀ l,i.z=some l→((P.info? t).bind (·.zero))=some (zvOf i.k.agg l)∧l.all D.zok=true∧(i.k.agg=true∨l.length=1)
 q:i.eq=true→eqB P t=true
def TabOk (P:Program) (Θ:Tab):Prop:=∀ t i,Θ t=some i→TOk P t i
theorem zok_rd {w:World} {S:Nat→Prop} {x:D} (h:x.zok=true):Rd w S x x.zv:=by
 cases x <;> simp [D.zok] at h <;> (first | exact .str _ h | constructor)
section
variable {P:Program} {t:TypeId} {i:TI}
theorem TOk.zc (h:TOk P t i) {l:List D} (hz:i.z=some l):((P.info? t).bind (·.zero)).map (fun v=>v.cells.toList)=some (l.map D.zv)∧l.all D.zok=true:=by
 obtain ⟨h1,h2,h3⟩:=h.z l hz;refine ⟨?_,h2⟩;rw [h1];unfold zvOf;cases ha:i.k.agg with
 | true=>simp [Value.cells]
 | false=>
  rw [ha] at h3;simp only [Bool.false_eq_true,false_or] at h3
  match l,h3 with
  | [d],_=>
   simp only [List.all_cons,List.all_nil,Bool.and_true] at h2;simp only [Bool.false_eq_true,if_false,Option.map_some,List.map_cons,List.map_nil];cases d <;> simp [D.zok] at h2 <;> first | (simp only [D.zv,nilV_cells];done) | simp [D.zv,Value.cells]
theorem TOk.info (h:TOk P t i):∃ x,P.info? t=some x∧x.size=i.sz∧x.bytes=i.bys:=by
 have:=h.s;cases hx:P.info? t with
 | none=>simp [hx] at this
 | some x=>
  simp [hx] at this;exact ⟨x,rfl,this.1,this.2⟩
theorem TOk.cells (h:TOk P t i):P.cellsOf t=i.sz:=by
 obtain ⟨x,h1,h2,_⟩:=h.info;simp [Program.cellsOf,h1,h2]
theorem TOk.run_size (h:TOk P t i) (w:World):(sizeOf t).run P w=.ok i.sz w:=by
 obtain ⟨x,h1,h2,_⟩:=h.info;simp [sizeOf,typeInfo,h1,h2]
theorem TOk.agg (h:TOk P t i):aggB P t=i.k.agg:=by
 have:=h.k;unfold tkOf at this;unfold aggB;split at this <;> simp_all <;> (first | (rw [← this];rfl) | (rw [← this.2];rfl) | simp [← this,TK.agg])
theorem TOk.run_agg (h:TOk P t i) (w:World):(isAgg t).run P w=.ok i.k.agg w:=by
 have h1:=h.agg;have h2:=h.k;unfold aggB at h1;unfold tkOf at h2;unfold isAgg underlying;cases hu:P.underlying t with
 | none=>simp [hu] at h2
 | some d=>
  simp [hu] at h1;cases d <;> simp_all
theorem TOk.int {k:IntKind} (h:TOk P t i) (hk:i.k=.int k):P.underlying t=some (.int k):=by
 have:=h.k;unfold tkOf at this;rw [hk] at this;split at this <;> simp_all
theorem TOk.slice {e:Nat} (h:TOk P t i) (hk:i.k=.slice e):P.underlying t=some (.slice e):=by
 have:=h.k;unfold tkOf at this;rw [hk] at this;split at this <;> simp_all
theorem TOk.arr {m e:Nat} (h:TOk P t i) (hk:i.k=.arr m e):P.underlying t=some (.array m e):=by
 have:=h.k;unfold tkOf at this;rw [hk] at this;split at this <;> simp_all
theorem TOk.str (h:TOk P t i) (hk:i.k=.str):P.underlying t=some .string:=by
 have:=h.k;unfold tkOf at this;rw [hk] at this;split at this <;> simp_all
theorem TOk.bool (h:TOk P t i) (hk:i.k=.bool):P.underlying t=some .bool:=by
 have:=h.k;unfold tkOf at this;rw [hk] at this;split at this <;> simp_all
theorem TOk.ptr {e:Nat} (h:TOk P t i) (hk:i.k=.ptr e):P.underlying t=some (.pointer e):=by
 have:=h.k;unfold tkOf at this;rw [hk] at this;split at this <;> simp_all
theorem TOk.map {k e:Nat} (h:TOk P t i) (hk:i.k=.map k e):P.underlying t=some (.map k e):=by
 have:=h.k;unfold tkOf at this;rw [hk] at this;split at this <;> simp_all
theorem TOk.fn (h:TOk P t i) (hk:i.k=.fn):∃ a b c,P.underlying t=some (.func a b c):=by
 have:=h.k;unfold tkOf at this;rw [hk] at this;split at this <;> simp_all
theorem TOk.struct {fs:List (Nat×Nat)} (h:TOk P t i) (hk:i.k=.struct fs) :
    ∃ F:Array Field,P.underlying t=some (.struct F)∧fs=F.toList.map (fun f=>(f.offset,f.type))∧∀ f∈F.toList,(P.info? f.type).isSome=true:=by
  have:=h.k;unfold tkOf at this;rw [hk] at this;split at this <;> simp_all
  intro f hf;obtain ⟨j,hj,rfl⟩:=Array.mem_iff_getElem.1 hf;exact this.1 j hj
end
def Done (w:World) (S:Nat→Prop) (γ:Nat→Value) (o:Nat→Option AO) (nk:Nat) (r:Result Next) (v:SV) (o':Nat→Option AO) (nk':Nat):Prop:=
 ∃ u w' S' γ',(r=.ok (.value u) w'∨(r=.ok .skip w'∧u=undef))∧Sto w' S' γ' o' nk'∧Tr w S γ o nk w' S' γ' o' nk'∧SR w' S' γ' o' v u∧v.lt nk'
theorem Done.now {w:World} {S:Nat→Prop} {γ:Nat→Value} {o:Nat→Option AO} {nk:Nat} {r:Result Next} {v:SV} {u:Value} (hs:Sto w S γ o nk)
    (hr:r=.ok (.value u) w) (h:SR w S γ o v u) (hl:v.lt nk):Done w S γ o nk r v o nk:=
  ⟨u,w,S,γ,.inl hr,hs,Tr.refl _ _ _ _ _,h,hl⟩
def cst:Value→SV
 | .int k n=>.d (.int k n)
 | .bool b=>.d (.bool b)
 | .string s=>if s.data.size≤9223372036854775807 then .d (.str s.data.toList) else .any
 | .slice none 0 0=>.d .nil
 | .pointer none=>.d .nilp
 | .map none=>.d (.nilk 0)
 | .nilFunc=>.d (.nilk 1)
 | .nilIface=>.d (.nilk 2)
 | _=>.any
theorem cst_sr {w:World} {S:Nat→Prop} {γ:Nat→Value} {o:Nat→Option AO} (v:Value):SR w S γ o (cst v) v:=by
 unfold cst;split
 ·exact .d _ _ (.int _ _)
 ·exact .d _ _ (.bool _)
 ·rename_i s;obtain ⟨⟨l⟩⟩:=s;split
  ·rename_i hm;exact .d _ _ (.str l (by simpa using hm))
  ·exact .any _
 ·exact .d _ _ .nil
 ·exact .d _ _ .nilp
 ·exact .d _ _ (.nilk 0)
 ·exact .d _ _ (.nilk 1)
 ·exact .d _ _ (.nilk 2)
 ·exact .any _
theorem cst_lt (v:Value) (n:Nat):(cst v).lt n:=by
 unfold cst;split <;> (first | trivial | (split <;> trivial))
def ev (sl:Nat→SV):Operand→SV
 | .tmp t=>sl t
 | .const v=>cst v
 | .func f=>.clo f [] []
 | .global _=>.any
structure Fr (s:St) (a:Act) (w:World) (S:Nat→Prop) (γ:Nat→Value):Prop where
 sto:Sto w S γ s.o s.nk
 sl:∀ u,SR w S γ s.o (s.sl u) (a.tmps.getD u undef)
 slt:∀ u,(s.sl u).lt s.nk
theorem Fr.ev {s:St} {a:Act} {w:World} {S:Nat→Prop} {γ:Nat→Value} (h:Fr s a w S γ) (x:Operand):SR w S γ s.o (ev s.sl x) (a.eval x):=by
 cases x with
 | tmp t=>exact h.sl t
 | const v=>exact cst_sr v
 | global g=>exact .any _
 | func f=>exact .clo f [] [] [] [] rfl (by simp) rfl (by simp)
theorem Fr.lt {s:St} {a:Act} {w:World} {S:Nat→Prop} {γ:Nat→Value} (h:Fr s a w S γ) (x:Operand):(Abs.ev s.sl x).lt s.nk:=by
 cases x with
 | tmp t=>exact h.slt t
 | const v=>exact cst_lt v _
 | global g=>trivial
 | func f=>exact ⟨trivial,trivial⟩
def oneC (o:Nat→Option AO):SV→Bool
 | .d x=>x.leaf
 | .loc t _=>match o t with
  | some (.box _)=>true
  | _=>false
 | .row t=>match o t with
  | some (.row _ _ _)=>true
  | _=>false
 | _=>false
theorem row_slice {w:World} {S:Nat→Prop} {γ:Nat→Value} {o:Nat→Option AO} {nk:Nat} (hs:Sto w S γ o nk) {t e z:Nat} {xs:List D} {v:Value} (h:SR w S γ o (.row t) v) (ho:o t=some (.row e z xs)):v.cells=#[v]∧v.oneCell'=true:=by
 cases h with
 | row _ v h=>
  have hv:=h e z xs ho;obtain ⟨vs,h1,_⟩:=(hs.row t e z xs ho).out;have h2:=h1.2;rw [← hv] at h2;rcases h2 with ⟨rfl,_⟩ | ⟨g,cap,cur,rfl,_⟩ <;> exact ⟨rfl,rfl⟩
theorem oneC_ok {w:World} {S:Nat→Prop} {γ:Nat→Value} {o:Nat→Option AO} {nk:Nat} (hs:Sto w S γ o nk) {c:SV} {v:Value} (h:SR w S γ o c v) (h1:oneC o c=true):v.cells=#[v]:=by
 have h0:=h;cases h with
 | d x v h=>exact h.leaf_cells h1
 | loc t f v h=>
  simp only [oneC] at h1;split at h1
  ·rename_i cs ho;obtain ⟨g,_,rfl⟩:=h cs ho;rfl
  ·cases h1
 | row t v h=>
  simp only [oneC] at h1;split at h1
  ·rename_i e z xs ho;exact (row_slice hs h0 ho).1
  ·cases h1
 | _=>simp [oneC] at h1
theorem oneC_one {w:World} {S:Nat→Prop} {γ:Nat→Value} {o:Nat→Option AO} {nk:Nat} (hs:Sto w S γ o nk) {c:SV} {v:Value} (h:SR w S γ o c v) (h1:oneC o c=true):v.oneCell'=true:=by
 have h0:=h;cases h with
 | d x v h=>exact h.leaf_one h1
 | loc t f v h=>
  simp only [oneC] at h1;split at h1
  ·rename_i cs ho;obtain ⟨g,_,rfl⟩:=h cs ho;rfl
  ·cases h1
 | row t v h=>
  simp only [oneC] at h1;split at h1
  ·rename_i e z xs ho;exact (row_slice hs h0 ho).2
  ·cases h1
 | _=>simp [oneC] at h1
def SV.soft:SV→SV
 | .dx z xs=>.d (.sl z xs)
 | c=>c
theorem SR.soft {w:World} {S:Nat→Prop} {γ:Nat→Value} {o:Nat→Option AO} {c:SV} {v:Value} (hc:SR w S γ o c v):SR w S γ o c.soft v:=by
 cases c with
 | dx z xs=>cases hc with
  | dx _ _ _ hr _=>exact .d _ _ hr
 | _=>exact hc
theorem SV.soft_lt {c:SV} {n:Nat} (hc:c.lt n):c.soft.lt n:=by cases c <;> exact hc
def SV.cells (o:Nat→Option AO):SV→Option (List SV)
 | .d (.agg xs)=>some (xs.map .d)
 | .d x=>some [.d x]
 | .loc t f=>match o t with
  | some (.box _)=>some [.loc t f]
  | _=>none
 | .row t=>match o t with
  | some (.row _ _ _)=>some [.row t]
  | _=>none
 | .clo f fs cs=>some [.clo f fs cs]
 | .el x=>some [.el x]
 | .dx z xs=>some [.dx z xs]
 | .ag cs=>some cs
 | .raw t=>match o t with
  | some (.raw _)=>some [.raw t]
  | _=>none
 | .view t lo n c=>match o t with
  | some (.row _ _ _)=>some [.view t lo n c]
  | _=>none
 | _=>none
theorem SV.cells_sr {w:World} {S:Nat→Prop} {γ:Nat→Value} {o:Nat→Option AO} {nk:Nat} (hs:Sto w S γ o nk) {c:SV} {v:Value} {cs:List SV} (h:SR w S γ o c v) (hl:c.lt nk) (hc:c.cells o=some cs) :
    v.cells.size=cs.length∧(∀ (i:Nat) (c:SV) (u:Value),cs[i]?=some c→v.cells[i]?=some u→SR w S γ o c u)∧(∀ u∈v.cells.toList,u.oneCell'=true)∧SV.lts nk cs:=by
  have one:∀ {c:SV} {v:Value},SR w S γ o c v→c.lt nk→v.cells=#[v]→v.oneCell'=true→v.cells.size=[c].length∧(∀ (i:Nat) (c':SV) (u:Value),[c][i]?=some c'→v.cells[i]?=some u→SR w S γ o c' u)∧(∀ u∈v.cells.toList,u.oneCell'=true)∧SV.lts nk [c]:=by
    intro c v h hl h1 h2;rw [h1];refine ⟨rfl,fun i c' u h3 h4=>?_,fun u hu=>?_,⟨hl,trivial⟩⟩
    · cases i with
      | zero=>
        simp at h3 h4;subst h3;subst h4;exact h
      | succ i=>simp at h3
    · simp at hu;subst hu;exact h2
  cases h with
  | any v=>simp [SV.cells] at hc
  | d x v h=>
    by_cases hx:x.leaf=true
    · have:cs=[.d x]:=by
        cases x <;> simp [SV.cells,D.leaf] at hc hx <;> exact hc.symm
      subst this;exact one (.d x v h) hl (h.leaf_cells hx) (h.leaf_one hx)
    · cases h with
      | agg xs vs h1 h2 h3=>
        simp [SV.cells] at hc;subst hc;refine ⟨by simp [Value.cells,h2],fun i c u h4 h5=>?_,fun u hu=>?_,lts_of fun i c h4=>?_⟩
        · simp [Value.cells] at h5;rw [List.getElem?_map] at h4;obtain ⟨x,hx',rfl⟩:=Option.map_eq_some_iff.1 h4;exact .d _ _ (h3 i x u hx' (by simpa using h5))
        · simp [Value.cells] at hu;obtain ⟨i,hi,hi'⟩:=List.mem_iff_getElem.1 hu;have hlt:i < xs.length:=by omega
          have:=h3 i xs[i] u (List.getElem?_eq_getElem hlt) (by rw [List.getElem?_eq_getElem hi,hi']);exact this.leaf_one (List.all_eq_true.1 h1 _ (List.getElem_mem hlt))
        · rw [List.getElem?_map] at h4;obtain ⟨x,hx',rfl⟩:=Option.map_eq_some_iff.1 h4;trivial
      | _=>simp [D.leaf] at hx
  | loc t f v h=>
    simp only [SV.cells] at hc;split at hc
    · rename_i cs' ho;simp at hc;subst hc;obtain ⟨g,h1,rfl⟩:=h cs' ho;exact one (.loc t f _ h) hl rfl rfl
    · cases hc
  | row t v h=>
    simp only [SV.cells] at hc;split at hc
    · rename_i e z xs ho;simp at hc;subst hc;have hv:=h e z xs ho;obtain ⟨vs,h1,_⟩:=(hs.row t e z xs ho).out;have h2:=h1.2;rw [← hv] at h2;rcases h2 with ⟨rfl,_⟩ | ⟨g,cap,cur,rfl,_⟩ <;> exact one (.row t _ h) hl rfl rfl
    · cases hc
  | el x a v h1 h2 h3=>simp [SV.cells] at hc;subst hc;exact one (.el x a v h1 h2 h3) hl rfl rfl
  | rel t j f v h=>simp [SV.cells] at hc
  | raw t v h=>
    simp only [SV.cells] at hc;split at hc
    · rename_i ob ho;simp at hc;subst hc;have hv:=h ob ho;obtain ⟨g,h1,_⟩:=(hs.raw t ob ho).out;rw [← hv] at h1;subst h1;split <;> exact one (.raw t _ (by rename_i hx;simpa [hx] using h)) hl rfl rfl
    · cases hc
  | view t lo n c v h=>
    simp only [SV.cells] at hc;split at hc
    · rename_i e z xs ho;simp at hc;subst hc;rcases h e z xs ho with ⟨_,rfl,_⟩ | ⟨g,m,k,p,_,_,_,_,_,rfl | ⟨_,f,_,rfl⟩⟩ <;> exact one (.view t lo n c _ h) hl rfl rfl
    · cases hc
  | dx z xs v h hk=>
    simp [SV.cells] at hc;subst hc;exact one (.dx z xs v h hk) hl (h.leaf_cells rfl) (h.leaf_one rfl)
  | clo f fs caps us vs hu h1 hv h2=>simp [SV.cells] at hc;subst hc;exact one (.clo f fs caps us vs hu h1 hv h2) hl rfl rfl
  | tup xs vs hv h1=>simp [SV.cells] at hc
  | ag xs vs hv h1 hu=>
    simp only [SV.cells,Option.some.injEq] at hc;subst hc;exact ⟨by simp [Value.cells,hv],fun i c u h3 h4=>h1 i c u h3 (by simpa [Value.cells] using h4),fun u h=>hu u (by simpa [Value.cells] using h),hl⟩
theorem Sto.new_box {w:World} {S:Nat→Prop} {γ:Nat→Value} {o:Nat→Option AO} {nk:Nat} (h:Sto w S γ o nk) (arr:Array Value) (ty:TypeId) (cs:List SV) (hsz:arr.size=cs.length)
    (hr:∀ (i:Nat) (c:SV) (u:Value),cs[i]?=some c→arr[i]?=some u→SR w S γ o c u) (hl:SV.lts nk cs) :
    Sto (w.alloc (.cells arr ty)) S (upd γ nk (.pointer (some ⟨w.heap.size,0,none⟩))) (upd o nk (some (.box cs))) (nk+1)∧
    Tr w S γ o nk (w.alloc (.cells arr ty)) S (upd γ nk (.pointer (some ⟨w.heap.size,0,none⟩))) (upd o nk (some (.box cs))) (nk+1):=by
  have hold:∀ k,k < w.heap.size→(w.alloc (.cells arr ty)).heap[k]?=w.heap[k]?:=fun k hk=>by
    show (w.heap.push _)[k]?=_;rw [Array.getElem?_push,if_neg (by omega)]
  have hne:∀ t x,o t=some x→t≠nk:=fun t x hx e=>by have:=h.o_lt t x hx;omega
  have hkeys:∀ t x,t < nk→upd o nk (some (.box cs)) t=some x→∃ y,o t=some y∧AO.kin y x∧upd γ nk (.pointer (some ⟨w.heap.size,0,none⟩)) t=γ t:=by
    intro t x ht hx;rw [upd_ne _ _ (by omega)] at hx;exact ⟨x,hx,AO.kin_refl x,upd_ne _ _ (by omega)⟩
  have hlive:∀ t x g,upd o nk (some (.box cs)) t=some x→blk (upd γ nk (.pointer (some ⟨w.heap.size,0,none⟩)) t)=some g→(t=nk∧g=w.heap.size)∨(t≠nk∧o t=some x∧blk (γ t)=some g):=by
    intro t x g hx hg;by_cases ht:t=nk
    · subst ht;rw [upd_same] at hg;simp [blk] at hg;exact .inl ⟨rfl,hg.symm⟩
    · rw [upd_ne _ _ ht] at hx hg;exact .inr ⟨ht,hx,hg⟩
  have hraw:∀ t ob,upd o nk (some (.box cs)) t=some (.raw ob)→RawAt (w.alloc (.cells arr ty)) S (upd γ nk (.pointer (some ⟨w.heap.size,0,none⟩)) t) ob:=by
    intro t ob hx;by_cases ht:t=nk
    · subst ht;rw [upd_same] at hx;cases hx
    · rw [upd_ne _ _ ht] at hx;rw [upd_ne _ _ ht];refine (h.raw t ob hx).kept (fun _ h=>h) (fun k hk=>hold k (h.s_lt k hk)) fun g hg=>hold g ?_;exact (h.away t _ g hx hg).2
  refine ⟨⟨fun k hk=>by have:=h.s_lt k hk;simp;omega,?_,?_,?_,hraw,?_,?_⟩,⟨rfl,rfl,rfl,by simp,Nat.le_succ _,fun k hk _=>hold k hk,fun _ h=>h,fun _ h=>.inl h,?_,hkeys⟩⟩
  · intro t x hx;by_cases ht:t=nk
    · omega
    · rw [upd_ne _ _ ht] at hx;have:=h.o_lt t x hx;omega
  · intro t cs' hc;by_cases ht:t=nk
    · subst ht;rw [upd_same] at hc;simp at hc;subst hc;rw [upd_same];refine ⟨⟨w.heap.size,arr,ty,rfl,by show (w.heap.push _)[w.heap.size]?=_;simp,hsz,fun i c u h1 h2=>?_⟩,SV.lts_mono (Nat.le_succ _) hl⟩;exact (hr i c u h1 h2).move (fun _ h=>h) (fun k hk=>hold k (h.s_lt k hk)) hkeys (lts_get hl i c h1)
    · rw [upd_ne _ _ ht] at hc;obtain ⟨⟨g,arr',ty',h4,h5,h6,h7⟩,hl'⟩:=h.box t cs' hc;rw [upd_ne _ _ ht];refine ⟨⟨g,arr',ty',h4,?_,h6,fun i c u h8 h9=>(h7 i c u h8 h9).move (fun _ h=>h) (fun k hk=>hold k (h.s_lt k hk)) hkeys (lts_get hl' i c h8)⟩,SV.lts_mono (Nat.le_succ _) hl'⟩;rw [hold g (Array.getElem?_eq_some_iff.1 h5).1];exact h5
  · intro t e z xs hx;by_cases ht:t=nk
    · subst ht;rw [upd_same] at hx;cases hx
    · rw [upd_ne _ _ ht] at hx;rw [upd_ne _ _ ht];obtain ⟨vs,h1,h2,h3,h4⟩:=(h.row t e z xs hx).out;exact ⟨vs,h1.alloc _,h2,fun i x v h5 h6=>(h3 i x v h5 h6).mono (fun _ h=>h) (fun k hk=>hold k (h.s_lt k hk)),h4⟩
  · intro t x g hx hg;rcases hlive t x g hx hg with ⟨_,rfl⟩ | ⟨_,h1,h2⟩
    · exact ⟨fun hS=>by have:=h.s_lt _ hS;omega,by simp⟩
    · have:=h.away t x g h1 h2;exact ⟨this.1,by have:=this.2;simp;omega⟩
  · intro t t' x x' g hne' hx hx' hg hg';rcases hlive t x g hx hg with ⟨h1,h2⟩ | ⟨h1,h2,h3⟩ <;> rcases hlive t' x' g hx' hg' with ⟨h1',h2'⟩ | ⟨h1',h2',h3'⟩
    · exact hne' (h1.trans h1'.symm)
    · have:=(h.away t' x' g h2' h3').2;omega
    · have:=(h.away t x g h2 h3).2;omega
    · exact h.apart t t' x x' g hne' h2 h2' h3 h3'
  · rintro g ⟨t,x,hx,hg⟩;rcases hlive t x g hx hg with ⟨_,h2⟩ | ⟨_,h1,h2⟩
    · exact .inl (by omega)
    · exact .inr ⟨t,x,h1,h2⟩
section
variable {P:Program} {Θ:Tab} {s:St} {a:Act} {w:World} {S:Nat→Prop} {γ:Nat→Value} {op:Oper}
theorem done_box (hf:Fr s a w S γ) {e:TypeId} {x:Operand} {cs:List SV} (ho:op.op=.box e x) (hc:(ev s.sl x).cells s.o=some cs) :
    Done w S γ s.o s.nk ((execOp a.eval op).run P w) (.loc s.nk 0) (upd s.o s.nk (some (.box cs))) (s.nk+1):=by
  obtain ⟨h1,h2,h3,h4⟩:=SV.cells_sr hf.sto (hf.ev x) (hf.lt x) hc;obtain ⟨k1,k2⟩:=hf.sto.new_box (a.eval x).cells e cs h1 h2 h4;refine ⟨.pointer (some ⟨w.heap.size,0,none⟩),_,S,_,.inl ?_,k1,k2,.loc _ _ _ fun cs' hcs=>⟨w.heap.size,upd_same _ _ _,rfl⟩,Nat.lt_succ_self _⟩;simp [execOp,ho,Instr.box,newVar,newRow]
theorem done_alloc (hΘ:TabOk P Θ) (hf:Fr s a w S γ) {e:TypeId} {i:TI} {l:List D} (ho:op.op=.alloc e) (hi:Θ e=some i) (hz:i.z=some l) :
    Done w S γ s.o s.nk ((execOp a.eval op).run P w) (.loc s.nk 0) (upd s.o s.nk (some (.box (l.map .d)))) (s.nk+1):=by
  obtain ⟨z1,z2⟩:=(hΘ e i hi).zc hz;obtain ⟨x,hx,_⟩:=(hΘ e i hi).info;cases hz0:x.zero with
  | none=>simp [hx,hz0] at z1
  | some zv=>
    simp [hx,hz0] at z1;have hsz:zv.cells.size=(l.map SV.d).length:=by
      have:=congrArg List.length z1;simpa using this
    have hget:∀ (j:Nat) (u:Value),zv.cells[j]?=some u→∃ d,l[j]?=some d∧u=d.zv:=by
      intro j u hu;have h1:zv.cells.toList[j]?=some u:=by simpa using hu
      rw [z1,List.getElem?_map] at h1;obtain ⟨d,hd,rfl⟩:=Option.map_eq_some_iff.1 h1;exact ⟨d,hd,rfl⟩
    obtain ⟨k1,k2⟩:=hf.sto.new_box zv.cells e (l.map .d) hsz (fun j c u h1 h2=>by
      obtain ⟨d,hd,rfl⟩:=hget j u h2;rw [List.getElem?_map,hd] at h1;simp at h1;subst h1;exact .d _ _ (zok_rd (List.all_eq_true.1 z2 d (List.mem_of_getElem? hd)))) (lts_of fun j c h1=>by
      rw [List.getElem?_map] at h1;obtain ⟨d,hd,rfl⟩:=Option.map_eq_some_iff.1 h1;trivial)
    refine ⟨.pointer (some ⟨w.heap.size,0,none⟩),_,S,_,.inl ?_,k1,k2,.loc _ _ _ fun cs' hcs=>⟨w.heap.size,upd_same _ _ _,rfl⟩,Nat.lt_succ_self _⟩;simp [execOp,ho,Instr.alloc,newVar,newRow,zeroValue,typeInfo,hx,hz0]
end
def allD:List SV→Option (List D)
 | []=>some []
 | .d x :: r=>(allD r).map (x :: ·)
 | _ :: _=>none
theorem allD_spec:∀ {l:List SV} {ds:List D},allD l=some ds→l=ds.map .d
 | [],ds,h=>by simp [allD] at h;subst h;rfl
 | .d x :: r,ds,h=>by
  simp only [allD] at h;obtain ⟨l,h1,rfl⟩:=Option.map_eq_some_iff.1 h;rw [allD_spec h1];rfl
 | .loc _ _ :: r,ds,h=>by simp [allD] at h
 | .row _ :: r,ds,h=>by simp [allD] at h
 | .el _ :: r,ds,h=>by simp [allD] at h
 | .rel _ _ _ :: r,ds,h=>by simp [allD] at h
 | .raw _ :: r,ds,h=>by simp [allD] at h
 | .view _ _ _ _ :: r,ds,h=>by simp [allD] at h
 | .dx _ _ :: r,ds,h=>by simp [allD] at h
 | .clo _ _ _ :: r,ds,h=>by simp [allD] at h
 | .tup _ :: r,ds,h=>by simp [allD] at h
 | .ag _ :: r,ds,h=>by simp [allD] at h
 | .any :: r,ds,h=>by simp [allD] at h
def ldOp (Θ:Tab) (o:Nat→Option AO) (t:TypeId) (x:SV) (K:SV→Prop):Prop:=
 ∃ i,Θ t=some i∧
  match x with
  | .loc k f=>∃ cs,o k=some (.box cs)∧
   if i.k.agg=true then (∃ ds,allD ((cs.drop f).take i.sz)=some ds∧ds.length=i.sz∧ds.all D.leaf=true∧K (.d (.agg ds)))∨(((cs.drop f).take i.sz).length=i.sz∧((cs.drop f).take i.sz).all (oneC o)=true∧K (.ag ((cs.drop f).take i.sz)))
   else ∃ c,cs[f]?=some c∧K c
  | .el x=>x.leaf=!i.k.agg∧x.width=i.sz∧K (.d x)
  | _=>False
theorem cell_at {w:World} {g:Nat} {arr:Array Value} {ty:TypeId} {fr:Nat×Nat} (h:w.heap[g]?=some (.cells arr ty fr)) (i:Nat):w.cell? ⟨g,i,none⟩=arr[i]?:=by simp [World.cell?,h]
section
variable {P:Program} {Θ:Tab} {s:St} {a:Act} {w:World} {S:Nat→Prop} {γ:Nat→Value} {op:Oper}
theorem done_load (hΘ:TabOk P Θ) (hf:Fr s a w S γ) {t:TypeId} {x:Operand} {K:SV→Prop} (ho:op.op=.load t x) (h:ldOp Θ s.o t (ev s.sl x) K) :
    ∃ v,Done w S γ s.o s.nk ((execOp a.eval op).run P w) v s.o s.nk∧K v:=by
  obtain ⟨i,hi,h⟩:=h;have hT:=hΘ t i hi;have hx:=hf.ev x;have hlx:=hf.lt x;generalize Abs.ev s.sl x=c at h hx hlx;have hrun:(execOp a.eval op).run P w=((Instr.loadAt t (a.eval x)).run P w).andThen fun u w'=>.ok (.value u) w':=by simp [execOp,ho]
  generalize a.eval x=ux at hx hrun;cases c with
  | loc k f=>
    obtain ⟨cs,hk,h⟩:=h;obtain ⟨⟨g,arr,ty,h1,h2,h3,h4⟩,hl⟩:=hf.sto.box k cs hk;cases hx with
    | loc _ _ v hv=>
      obtain ⟨g',h5,h6⟩:=hv cs hk;rw [h1] at h5;simp at h5;subst h5;by_cases hag:i.k.agg=true
      · rw [if_pos hag] at h;have hlen:((cs.drop f).take i.sz).length=i.sz:=by
          rcases h with ⟨ds,h7,h8,_⟩ | ⟨h7,_⟩
          · rw [allD_spec h7];simp [h8]
          · exact h7
        let us:=((arr.toList.drop f).take i.sz);have hus:us.length=i.sz:=by
          simp only [us,List.length_take,List.length_drop,Array.length_toList,h3] at hlen ⊢;exact hlen
        have hcell:∀ j u,us[j]?=some u→arr[f+j]?=some u∧j < i.sz:=by
          intro j u hu;have hj:j < i.sz:=by rw [← hus];exact (List.getElem?_eq_some_iff.1 hu).1
          simp only [us,List.getElem?_take,List.getElem?_drop] at hu;rw [if_pos hj] at hu;exact ⟨by simpa using hu,hj⟩
        have hl2:(loadCells ⟨g,f,none⟩ us.length).run P w=.ok us.toArray w:=
          run_loadCells_list (P:=P) w ⟨g,f,none⟩ us (fun j u hu=>by rw [Addr.add_mid,cell_at h2];exact (hcell j u hu).1)
        rcases h with ⟨ds,h7,h8,h9,hK⟩ | ⟨_,hall,hK⟩
        rotate_left
        · refine ⟨_,Done.now hf.sto (u:=.agg us.toArray) ?_ (.ag _ us (by rw [hus,hlen]) (fun j d u hd hu=>?_) ?_) (lts_of fun j c hc=>?_),hK⟩
          · rw [hrun,h6];rw [hus] at hl2;simp [Instr.loadAt,Instr.sureAddr,loadVar,hT.run_agg,hag,hT.run_size,hl2]
          · obtain ⟨h11,h12⟩:=hcell j u hu;have h13:cs[f+j]?=some d:=by
              simpa [List.getElem?_take,List.getElem?_drop,h12] using hd
            exact h4 _ _ _ h13 h11
          · intro u hu;obtain ⟨j,hj⟩:=List.getElem?_of_mem hu;obtain ⟨h11,h12⟩:=hcell j u hj;have hlt:j < ((cs.drop f).take i.sz).length:=by rw [hlen];exact h12
            have hd:=List.getElem?_eq_getElem hlt;have h13:cs[f+j]?=some (((cs.drop f).take i.sz)[j]'hlt):=by
              rw [← hd];simp [List.getElem?_take,List.getElem?_drop,h12]
            exact oneC_one hf.sto (h4 _ _ _ h13 h11) (List.all_eq_true.1 hall _ (List.getElem_mem hlt))
          · have hm:=List.mem_of_mem_drop (List.mem_of_mem_take (List.mem_of_getElem? hc));obtain ⟨q,hq⟩:=List.getElem?_of_mem hm;exact lts_get hl q c hq
        have h10:=allD_spec h7;refine ⟨_,Done.now hf.sto (u:=.agg us.toArray) ?_ (.d _ _ (.agg ds us h9 (by rw [hus,h8]) fun j d u hd hu=>?_)) trivial,hK⟩
        · rw [hrun,h6];rw [hus] at hl2;simp [Instr.loadAt,Instr.sureAddr,loadVar,hT.run_agg,hag,hT.run_size,hl2]
        · obtain ⟨h11,h12⟩:=hcell j u hu;have h13:cs[f+j]?=some (.d d):=by
            have:((cs.drop f).take i.sz)[j]?=some (.d d):=by rw [h10,List.getElem?_map,hd];rfl
            simpa [List.getElem?_take,List.getElem?_drop,h12] using this
          cases h4 _ _ _ h13 h11 with
          | d _ _ hr=>exact hr
      · rw [if_neg hag] at h;obtain ⟨c,h7,hK⟩:=h;have hlt:f < arr.size:=by rw [h3];exact (List.getElem?_eq_some_iff.1 h7).1
        have hcell:w.cell? ⟨g,f,none⟩=some arr[f]:=by rw [cell_at h2];simp [hlt]
        refine ⟨_,Done.now hf.sto (u:=arr[f]) ?_ (h4 f c _ h7 (by simp [hlt])) (lts_get hl f c h7),hK⟩;rw [hrun,h6];simp [Instr.loadAt,Instr.sureAddr,loadVar,hT.run_agg,hag,hcell]
  | el x0=>
    obtain ⟨h1,h2,hK⟩:=h;cases hx with
    | el _ ad v hS hr hc=>
      by_cases hag:i.k.agg=true
      · rw [hag] at h1;cases hr with
        | agg xs vs h3 h4 h5=>
          have hl2:(loadCells ad vs.length).run P w=.ok vs.toArray w:=
            run_loadCells_list (P:=P) w ad vs (fun j u hu=>hc j u (by simpa [Value.cells] using hu))
          have hsz:vs.length=i.sz:=by rw [h4];exact h2
          rw [hsz] at hl2;refine ⟨_,Done.now hf.sto (u:=.agg vs.toArray) ?_ (.d _ _ (.agg xs vs h3 h4 h5)) trivial,hK⟩;rw [hrun];simp [Instr.loadAt,Instr.sureAddr,loadVar,hT.run_agg,hag,hT.run_size,hl2]
        | _=>simp [D.leaf] at h1
      · simp only [Bool.not_eq_true] at hag;rw [hag] at h1;have hone:=hr.leaf_cells (by simpa using h1);have hcell:w.cell? ad=some v:=by
          have:=hc 0 v (by rw [hone];rfl);simpa [Addr.add] using this
        refine ⟨_,Done.now hf.sto (u:=v) ?_ (.d _ _ hr) trivial,hK⟩;rw [hrun];simp [Instr.loadAt,Instr.sureAddr,loadVar,hT.run_agg,hag,hcell]
  | _=>exact h.elim
end
theorem Addr_add_add (a:Addr) (m n:Nat):(a.add m).add n=a.add (m+n):=by
 unfold Addr.add;by_cases hm:m=0 <;> by_cases hn:n=0 <;> simp [hm,hn,Nat.add_assoc]
def D.sub (off sz:Nat) (ag:Bool):D→Option D
 | .agg xs=>if ag=true then (if off+sz≤xs.length then some (.agg ((xs.drop off).take sz)) else none) else xs[off]?
 | _=>none
def fdOp (Θ:Tab) (o:Nat→Option AO) (t:TypeId) (x:SV) (f:Nat) (K:SV→Prop):Prop:=
 ∃ i fs off ft j,Θ t=some i∧i.k=.struct fs∧fs[f]?=some (off,ft)∧Θ ft=some j∧j.sz≠0∧
  match x with
  | .loc k g=>(∃ cs,o k=some (.box cs))∧K (.loc k (g+off))
  | .el x=>∃ y,x.sub off j.sz j.k.agg=some y∧K (.el y)
  | .rel k q g=>(∃ e z xs,o k=some (.row e z xs))∧K (.rel k q (g+off))
  | _=>False
def fvOp (Θ:Tab) (t:TypeId) (x:SV) (f:Nat) (K:SV→Prop):Prop:=
 ∃ i fs off ft j,Θ t=some i∧i.k=.struct fs∧fs[f]?=some (off,ft)∧Θ ft=some j∧
  match x with
  | .d x=>∃ y,x.sub off j.sz j.k.agg=some y∧K (.d y)
  | _=>False
def ixOp (Θ:Tab) (o:Nat→Option AO) (t:TypeId) (x ix:SV) (K:SV→Prop):Prop:=
 ∃ i e j k n,Θ t=some i∧(i.k=.slice e∨∃ m,i.k=.arr m e∧n.toNat < m)∧Θ e=some j∧ix=.d (.int k n)∧0≤n∧
  match x with
  | .d (.sl z xs)=>i.k=.slice e∧z=j.sz∧∃ y,xs[n.toNat]?=some y∧K (.el y)
  | .row q=>i.k=.slice e∧∃ e' xs,o q=some (.row e' j.sz xs)∧n.toNat < xs.length∧K (.rel q n.toNat 0)
  | .loc q f=>(∃ m,i.k=.arr m e)∧(∃ cs,o q=some (.box cs))∧K (.loc q (f+n.toNat * j.sz))
  | _=>False
theorem toNat_lt {n:Int} {m:Nat} (h0:0≤n) (h:n.toNat < m):n < (m:Int):=by omega
section
variable {P:Program} {Θ:Tab} {s:St} {a:Act} {w:World} {S:Nat→Prop} {γ:Nat→Value} {op:Oper}
theorem done_move (hf:Fr s a w S γ) {x:Operand} (ho:op.op=.move x∨op.op=.assign x):Done w S γ s.o s.nk ((execOp a.eval op).run P w) (ev s.sl x) s.o s.nk:=
 Done.now hf.sto (u:=a.eval x) (by rcases ho with ho | ho <;> simp [execOp,ho]) (hf.ev x) (hf.lt x)
theorem done_pick (hf:Fr s a w S γ) {c x y:Operand} {b:Bool} (ho:op.op=.pick c x y) (hc:ev s.sl c=.d (.bool b)) :
    Done w S γ s.o s.nk ((execOp a.eval op).run P w) (if b=true then ev s.sl x else ev s.sl y) s.o s.nk:=by
  have h:=hf.ev c;rw [hc] at h;generalize hu:a.eval c=u at h;cases h with
  | d _ v hr=>
    cases hr with
    | bool b=>
      cases b with
      | true=>exact Done.now hf.sto (u:=a.eval x) (by simp [execOp,ho,hu,asBool]) (hf.ev x) (hf.lt x)
      | false=>exact Done.now hf.sto (u:=a.eval y) (by simp [execOp,ho,hu,asBool]) (hf.ev y) (hf.lt y)
theorem TOk.field {t:TypeId} {i:TI} {fs:List (Nat×Nat)} {f off ft:Nat} (h:TOk P t i) (hk:i.k=.struct fs) (hfd:fs[f]?=some (off,ft)) :
    ∃ F:Array Field,∃ fd:Field,P.underlying t=some (.struct F)∧F[f]?=some fd∧fd.offset=off∧fd.type=ft:=by
  obtain ⟨F,h1,h2,_⟩:=h.struct hk;rw [h2,List.getElem?_map] at hfd;obtain ⟨fd,h3,h4⟩:=Option.map_eq_some_iff.1 hfd;simp only [Prod.mk.injEq] at h4;exact ⟨F,fd,h1,by simpa using h3,h4.1,h4.2⟩
theorem run_fieldAt (hΘ:TabOk P Θ) {t:TypeId} {i:TI} {fs:List (Nat×Nat)} {f off ft:Nat} {j:TI} (hi:Θ t=some i) (hk:i.k=.struct fs) (hfd:fs[f]?=some (off,ft)) (hj:Θ ft=some j) (hsz:j.sz≠0) (ad:Addr) :
    (Instr.fieldAt t (.pointer (some ad)) f).run P w=.ok (.pointer (some (ad.add off))) w:=by
  obtain ⟨F,fd,h1,h2,rfl,rfl⟩:=(hΘ t i hi).field hk hfd;simp [Instr.fieldAt,run_underlying h1,h2,Instr.sureAddr,fieldPlace,(hΘ _ j hj).run_size,hsz]
theorem sub_rd {x y:D} {off sz:Nat} {ag:Bool} {v:Value} (h:Rd w S x v) (hs:x.sub off sz ag=some y) :
    ∃ u,Rd w S y u∧(∀ (j:Nat) (c:Value),u.cells[j]?=some c→v.cells[off+j]?=some c)∧∃ cs,v=.agg cs∧(if ag=true then u=.agg (cs.extract off (off+sz))∧off+sz≤cs.size else cs[off]?=some u):=by
  cases h with
  | agg xs vs h1 h2 h3=>
    simp only [D.sub] at hs;split at hs
    · rename_i hag;split at hs
      · rename_i hle;simp only [Option.some.injEq] at hs;subst hs;have hex:vs.toArray.extract off (off+sz)=((vs.drop off).take sz).toArray:=by
          apply Array.ext';simp only [Array.toList_extract,List.extract_eq_take_drop];congr 1;omega
        refine ⟨.agg ((vs.drop off).take sz).toArray,.agg _ _ ?_ ?_ ?_,?_,vs.toArray,rfl,?_⟩
        · rw [List.all_eq_true] at h1 ⊢;exact fun x hx=>h1 x (List.mem_of_mem_drop (List.mem_of_mem_take hx))
        · simp only [List.length_take,List.length_drop,h2]
        · intro i x u hx hu;have hi:i < sz:=by
            have:=(List.getElem?_eq_some_iff.1 hx).1;simp only [List.length_take] at this;omega
          simp only [List.getElem?_take,List.getElem?_drop,if_pos hi] at hx hu;exact h3 _ _ _ hx hu
        · intro j c hc;simp only [Value.cells,List.getElem?_toArray] at hc ⊢;have hi:j < sz:=by
            have:=(List.getElem?_eq_some_iff.1 hc).1;simp only [List.length_take] at this;omega
          simpa [List.getElem?_take,List.getElem?_drop,hi] using hc
        · rw [if_pos hag,hex];exact ⟨rfl,by simpa [h2] using hle⟩
      · cases hs
    · rename_i hag;obtain ⟨u,hu⟩:∃ u,vs[off]?=some u:=by
        have hlt:off < xs.length:=(List.getElem?_eq_some_iff.1 hs).1;exact ⟨vs[off]'(by omega),List.getElem?_eq_getElem (by omega)⟩
      have hr:=h3 off y u hs hu;have hl:y.leaf=true:=List.all_eq_true.1 h1 y (List.mem_of_getElem? hs);refine ⟨u,hr,fun j c hc=>?_,vs.toArray,rfl,by rw [if_neg hag];simpa using hu⟩;rw [hr.leaf_cells hl] at hc;cases j with
      | zero=>simp at hc;subst hc;simpa [Value.cells] using hu
      | succ j=>simp at hc
  | _=>simp [D.sub] at hs
theorem done_fieldAddr (hΘ:TabOk P Θ) (hf:Fr s a w S γ) {t:TypeId} {x:Operand} {f:Nat} {K:SV→Prop} (ho:op.op=.fieldAddr t x f) (h:fdOp Θ s.o t (ev s.sl x) f K) :
    ∃ v,Done w S γ s.o s.nk ((execOp a.eval op).run P w) v s.o s.nk∧K v:=by
  obtain ⟨i,fs,off,ft,j,hi,hk,hfd,hj,hsz,h⟩:=h;have hx:=hf.ev x;have hlx:=hf.lt x;have hrun:(execOp a.eval op).run P w=((Instr.fieldAt t (a.eval x) f).run P w).andThen fun u w'=>.ok (.value u) w':=by simp [execOp,ho]
  generalize Abs.ev s.sl x=c at h hx hlx;generalize a.eval x=ux at hx hrun;cases c with
  | loc k g=>
    obtain ⟨⟨cs,hcs⟩,hK⟩:=h;cases hx with
    | loc _ _ v hv=>
      obtain ⟨b,h1,rfl⟩:=hv cs hcs;refine ⟨_,Done.now hf.sto (u:=.pointer (some ⟨b,g+off,none⟩)) ?_ (.loc _ _ _ fun cs' hcs'=>⟨b,h1,rfl⟩) hlx,hK⟩;rw [hrun,run_fieldAt hΘ hi hk hfd hj hsz];simp [Addr.add_mid]
  | rel k q g=>
    obtain ⟨⟨e,z,xs,hxs⟩,hK⟩:=h;cases hx with
    | rel _ _ _ v hv=>
      obtain ⟨b,n,c,h1,rfl⟩:=hv e z xs hxs;refine ⟨_,Done.now hf.sto (u:=.pointer (some ⟨b,q * z+(g+off),none⟩)) ?_ (.rel k q (g+off) _ fun e' z' xs' hxs'=>?_) hlx,hK⟩
      · rw [hrun,run_fieldAt hΘ hi hk hfd hj hsz];simp [Addr.add_mid,Nat.add_assoc]
      · rw [hxs] at hxs';cases hxs';exact ⟨b,n,c,h1,rfl⟩
  | el x0=>
    obtain ⟨y,hy,hK⟩:=h;cases hx with
    | el _ ad v hS hr hc=>
      obtain ⟨u,h1,h2,_⟩:=sub_rd hr hy;refine ⟨_,Done.now hf.sto (u:=.pointer (some (ad.add off))) ?_ (.el y _ u (by rw [add_block];exact hS) h1 fun j c hj'=>?_) trivial,hK⟩
      · rw [hrun,run_fieldAt hΘ hi hk hfd hj hsz];rfl
      · rw [Addr_add_add];exact hc _ _ (h2 j c hj')
  | _=>exact h.elim
theorem done_field (hΘ:TabOk P Θ) (hf:Fr s a w S γ) {t:TypeId} {x:Operand} {f:Nat} {K:SV→Prop} (ho:op.op=.field t x f) (h:fvOp Θ t (ev s.sl x) f K) :
    ∃ v,Done w S γ s.o s.nk ((execOp a.eval op).run P w) v s.o s.nk∧K v:=by
  obtain ⟨i,fs,off,ft,j,hi,hk,hfd,hj,h⟩:=h;have hx:=hf.ev x;have hrun:(execOp a.eval op).run P w=((Instr.field t (a.eval x) f).run P w).andThen fun u w'=>.ok (.value u) w':=by simp [execOp,ho]
  generalize Abs.ev s.sl x=c at h hx;generalize a.eval x=ux at hx hrun;cases c with
  | d x0=>
    obtain ⟨y,hy,hK⟩:=h;cases hx with
    | d _ v hr=>
      obtain ⟨u,h1,h2,cs,rfl,h3⟩:=sub_rd hr hy;obtain ⟨F,fd,h4,h5,rfl,rfl⟩:=(hΘ t i hi).field hk hfd;refine ⟨_,Done.now hf.sto (u:=u) ?_ (.d _ _ h1) trivial,hK⟩;rw [hrun];by_cases hag:j.k.agg=true
      · rw [if_pos hag] at h3;obtain ⟨rfl,_⟩:=h3;simp [Instr.field,run_underlying h4,h5,asAgg,part,(hΘ _ j hj).run_agg,hag,(hΘ _ j hj).run_size]
      · rw [if_neg hag] at h3;simp [Instr.field,run_underlying h4,h5,asAgg,part,(hΘ _ j hj).run_agg,hag,h3]
  | _=>exact h.elim
theorem done_indexAddr (hΘ:TabOk P Θ) (hf:Fr s a w S γ) {t:TypeId} {x ix:Operand} {K:SV→Prop} (ho:op.op=.indexAddr t x ix) (h:ixOp Θ s.o t (ev s.sl x) (ev s.sl ix) K) :
    ∃ v,Done w S γ s.o s.nk ((execOp a.eval op).run P w) v s.o s.nk∧K v:=by
  obtain ⟨i,e,j,k,n,hi,hk,hj,hix,h0,h⟩:=h;have hx:=hf.ev x;have hlx:=hf.lt x;have hy:=hf.ev ix;rw [hix] at hy;have hrun:(execOp a.eval op).run P w=((Instr.indexAt t (a.eval x) (a.eval ix)).run P w).andThen fun u w'=>.ok (.value u) w':=by simp [execOp,ho]
  generalize Abs.ev s.sl x=c at h hx hlx;generalize a.eval x=ux at hx hrun;generalize a.eval ix=uy at hy hrun;cases hy with
  | d _ v hr=>
    cases hr with
    | int k n=>
      cases c with
      | loc q f=>
        obtain ⟨⟨m,hka⟩,⟨cs,hq⟩,hK⟩:=h;have hnm:n.toNat < m:=by
          rcases hk with hk | ⟨m',hk,hlt⟩
          · rw [hk] at hka;cases hka
          · rw [hk] at hka;cases hka;exact hlt
        have hu:=(hΘ t i hi).arr hka;have hlt':=toNat_lt h0 hnm;cases hx with
        | loc _ _ _ hv=>
          obtain ⟨g,h1,rfl⟩:=hv cs hq;refine ⟨_,Done.now hf.sto (u:=.pointer (some ⟨g,f+n.toNat * j.sz,none⟩)) ?_ (.loc _ _ _ fun cs' hcs'=>⟨g,h1,rfl⟩) hlx,hK⟩;rw [hrun];simp [Instr.indexAt,asIntOf,run_underlying hu,h0,hlt',(hΘ e j hj).run_size,Addr.add_mid,Instr.sureAddr]
      | d x0=>
        cases x0 with
        | sl z xs=>
          obtain ⟨hk',rfl,y,hy,hK⟩:=h;have hu:=(hΘ t i hi).slice hk';cases hx with
          | d _ v hr=>
            cases hr with
            | emp z A c hm=>simp at hy
            | sl z xs ad c vs h1 h2 h3 h4 h5 h6 h7=>
              have hlt:n.toNat < xs.length:=(List.getElem?_eq_some_iff.1 hy).1;have hlt':=toNat_lt h0 hlt;have hv:vs[n.toNat]?=some (vs[n.toNat]'(by omega)):=List.getElem?_eq_getElem (by omega);refine ⟨_,Done.now hf.sto (u:=.pointer (some (ad.add (n.toNat * j.sz)))) ?_ (.el y _ _ (by rw [add_block];exact h3) (h5 _ _ _ hy hv) fun q u hq=>?_) trivial,hK⟩
              · rw [hrun];simp [Instr.indexAt,asIntOf,run_underlying hu,h0,hlt',(hΘ e j hj).run_size]
              · rw [Addr_add_add];exact h7 _ _ _ _ hv hq
        | _=>exact h.elim
      | row q=>
        obtain ⟨hk',e',xs,hq,hlt,hK⟩:=h;have hu:=(hΘ t i hi).slice hk';have hlt':=toNat_lt h0 hlt;cases hx with
        | row _ v hv=>
          obtain rfl:=hv _ _ _ hq;obtain ⟨vs,hown,_⟩:=(hf.sto.row q _ _ _ hq).out;rcases hown.2 with ⟨h1,h2⟩ | ⟨g,cap,cur,h1,_⟩
          · omega
          · refine ⟨_,Done.now hf.sto (u:=.pointer (some ⟨g,n.toNat * j.sz+0,none⟩)) ?_ (.rel _ _ _ _ fun e2 z2 xs2 h2=>?_) hlx,hK⟩
            · rw [hrun,h1];simp [Instr.indexAt,asIntOf,run_underlying hu,h0,hlt',(hΘ e j hj).run_size,Addr.add_mid]
            · rw [hq] at h2;cases h2;exact ⟨g,_,cap,h1,rfl⟩
      | _=>exact h.elim
def bAt (l:List UInt8) (i:Nat):Int:=((l[i]?.getD 0).toNat:Int)
theorem done_index (hΘ:TabOk P Θ) (hf:Fr s a w S γ) {t:TypeId} {x ix:Operand} {i:TI} {l:List UInt8} {k:IntKind} {n:Int} (ho:op.op=.index t x ix) (hi:Θ t=some i) (hk:i.k=.str) (hx:ev s.sl x=.d (.str l)) (hix:ev s.sl ix=.d (.int k n))
    (h0:0≤n) (hn:n.toNat < l.length):Done w S γ s.o s.nk ((execOp a.eval op).run P w) (.d (.int .u8 (bAt l n.toNat))) s.o s.nk:=by
  have h1:=hf.ev x;have h2:=hf.ev ix;rw [hx] at h1;rw [hix] at h2;have hrun:(execOp a.eval op).run P w=((Instr.index t (a.eval x) (a.eval ix)).run P w).andThen fun u w'=>.ok (.value u) w':=by simp [execOp,ho]
  generalize a.eval x=ux at h1 hrun;generalize a.eval ix=uy at h2 hrun;cases h1 with
  | d _ v hr=>
    cases hr with
    | str l=>
      cases h2 with
      | d _ v hr=>
        cases hr with
        | int k n=>
          refine Done.now hf.sto (u:=.int .u8 (bAt l n.toNat)) ?_ (.d _ _ (.int _ _)) trivial;rw [hrun];have hg:(⟨l.toArray⟩:ByteArray)[n.toNat]?=some l[n.toNat]:=by
            show (if h:_ then _ else _)=_;have hsz:n.toNat < (⟨l.toArray⟩:ByteArray).size:=by simpa [ByteArray.size] using hn
            rw [dif_pos hsz];rfl
          simp [Instr.index,asIntOf,run_underlying ((hΘ t i hi).str hk),h0,hg,bAt,hn]
theorem done_extract (hf:Fr s a w S γ) {x:Operand} {q:Nat} {xs:List SV} {c:SV} (ho:op.op=.extract x q) (hx:ev s.sl x=.tup xs) (hq:xs[q]?=some c) :
    Done w S γ s.o s.nk ((execOp a.eval op).run P w) c s.o s.nk:=by
  have h1:=hf.ev x;have hl:=hf.lt x;rw [hx] at h1 hl;have hrun:(execOp a.eval op).run P w=((Instr.extract (a.eval x) q).run P w).andThen fun u w'=>.ok (.value u) w':=by simp [execOp,ho]
  generalize a.eval x=ux at h1 hrun;cases h1 with
  | tup _ vs hv hr=>
    have hlt:q < vs.length:=by rw [hv];exact (List.getElem?_eq_some_iff.1 hq).1
    refine Done.now hf.sto (u:=vs[q]) ?_ (hr q c _ hq (List.getElem?_eq_getElem hlt)) (lts_get hl q c hq);rw [hrun];simp [Instr.extract,hlt]
theorem done_makeFunc (hf:Fr s a w S γ) {f:FuncId} {fs cs:Array Operand} (ho:op.op=.makeFunc (.func f) fs cs) :
    Done w S γ s.o s.nk ((execOp a.eval op).run P w) (.clo f (fs.toList.map (ev s.sl)) (cs.toList.map (ev s.sl))) s.o s.nk:=by
  refine Done.now hf.sto (u:=.func (.func f) (fs.toList.map a.eval).toArray (cs.toList.map a.eval).toArray) ?_ (.clo f _ _ _ _ (by simp) ?_ (by simp) ?_) ⟨lts_of ?_,lts_of ?_⟩
  · simp [execOp,ho,Instr.makeFunc];constructor <;> (apply Array.ext';simp)
  · intro i c v h1 h2;rw [List.getElem?_map] at h1 h2;obtain ⟨x,hx,rfl⟩:=Option.map_eq_some_iff.1 h1;rw [hx] at h2;simp at h2;subst h2;exact hf.ev x
  · intro i c v h1 h2;rw [List.getElem?_map] at h1 h2;obtain ⟨x,hx,rfl⟩:=Option.map_eq_some_iff.1 h1;rw [hx] at h2;simp at h2;subst h2;exact hf.ev x
  · intro i c h1;rw [List.getElem?_map] at h1;obtain ⟨x,hx,rfl⟩:=Option.map_eq_some_iff.1 h1;exact hf.lt x
  · intro i c h1;rw [List.getElem?_map] at h1;obtain ⟨x,hx,rfl⟩:=Option.map_eq_some_iff.1 h1;exact hf.lt x
end
def bitsOf (op:BinOp) (k:IntKind) (x y:Int):Int:=
 match op with
 | .and=>k.wrap (BitVec.ofInt k.bits x &&& BitVec.ofInt k.bits y).toNat
 | .or=>k.wrap (BitVec.ofInt k.bits x ||| BitVec.ofInt k.bits y).toNat
 | .xor=>k.wrap (BitVec.ofInt k.bits x ^^^ BitVec.ofInt k.bits y).toNat
 | .andNot=>k.wrap (BitVec.ofInt k.bits x &&& ~~~ (BitVec.ofInt k.bits y)).toNat
 | _=>0
def intBin (op:BinOp) (k:IntKind) (x y:Int):Option D:=
 match op with
 | .add=>some (.int k (k.wrap (x+y)))
 | .sub=>some (.int k (k.wrap (x - y)))
 | .mul=>some (.int k (k.wrap (x * y)))
 | .quo=>if y=0 then none else some (.int k (k.wrap (x.tdiv y)))
 | .rem=>if y=0 then none else some (.int k (x.tmod y))
 | .and=>some (.int k (bitsOf .and k x y))
 | .or=>some (.int k (bitsOf .or k x y))
 | .xor=>some (.int k (bitsOf .xor k x y))
 | .andNot=>some (.int k (bitsOf .andNot k x y))
 | .eql=>some (.bool (x == y))
 | .neq=>some (.bool (x != y))
 | .lss=>some (.bool (decide (x < y)))
 | .leq=>some (.bool (decide (x≤y)))
 | .gtr=>some (.bool (decide (y < x)))
 | .geq=>some (.bool (decide (y≤x)))
 | .shl=>none
 | .shr=>none
def shBin (op:BinOp) (k:IntKind) (x y:Int):Option D:=
 match op with
 | .shl=>if y < 0 then none else some (.int k (k.wrap (x * 2 ^ min y.toNat k.bits)))
 | .shr=>if y < 0 then none else some (.int k (x.fdiv (2 ^ min y.toNat k.bits)))
 | _=>none
def strBin (op:BinOp) (x y:List UInt8):Option D:=
 match op with
 | .add=>if x.length+y.length≤9223372036854775807 then some (.str (x++y)) else none
 | .eql=>some (.bool (decide (x=y)))
 | .neq=>some (.bool (!decide (x=y)))
 | .lss=>some (.bool (Op.bytesLess x y))
 | .leq=>some (.bool (Op.bytesLess x y || decide (x=y)))
 | .gtr=>some (.bool (!(Op.bytesLess x y || decide (x=y))))
 | .geq=>some (.bool (!Op.bytesLess x y))
 | _=>none
def bnOp (Θ:Tab) (o:Nat→Option AO) (op:BinOp) (t:TypeId) (x y:SV) (K:SV→Prop):Prop:=
 match x,y with
 | .d (.int k a),.d (.int k' b)=>match op with
  | .shl=>∃ r,shBin .shl k a b=some r∧K (.d r)
  | .shr=>∃ r,shBin .shr k a b=some r∧K (.d r)
  | op=>k=k'∧∃ r,intBin op k a b=some r∧K (.d r)
 | .d (.str a),.d (.str b)=>∃ r,strBin op a b=some r∧K (.d r)
 | .d (.bool a),.d (.bool b)=>(∃ i,Θ t=some i∧i.k=.bool)∧match op with
  | .eql=>K (.d (.bool (a == b)))
  | .neq=>K (.d (.bool (!(a == b))))
  | _=>False
 | .d .nil,.d .nil=>(∃ i e,Θ t=some i∧i.k=.slice e)∧match op with
  | .eql=>K (.d (.bool true))
  | .neq=>K (.d (.bool false))
  | _=>False
 | .d (.sl _ xs),.d .nil=>(∃ i e,Θ t=some i∧i.k=.slice e)∧match op with
  | .eql=>∀ b:Bool,(b=true→xs=[])→K (.d (.bool b))
  | .neq=>∀ b:Bool,(b=false→xs=[])→K (.d (.bool b))
  | _=>False
 | .d .nilp,.d .nilp=>(∃ i e,Θ t=some i∧i.k=.ptr e)∧match op with
  | .eql=>K (.d (.bool true))
  | .neq=>K (.d (.bool false))
  | _=>False
 | .loc q _,.d .nilp=>(∃ i e,Θ t=some i∧i.k=.ptr e)∧(∃ cs,o q=some (.box cs))∧match op with
  | .eql=>K (.d (.bool false))
  | .neq=>K (.d (.bool true))
  | _=>False
 | _,_=>False
theorem run_eqGuard_no {P:Program} {w:World} {op:BinOp} {t:TypeId} {x y:Operand} {a b:Value} (h:∀ cs,a≠.agg cs) (h':a≠.nilIface):(eqGuard op t x y a b).run P w=.ok () w:=by
 unfold eqGuard;cases op <;> cases a <;> simp_all
theorem eqd_bool {P:Program} {w:World} {t:TypeId} {a b:Bool} (d:Nat) (h:P.underlying t=some .bool):(Op.equalIn (d+1) t (.bool a) (.bool b)).run P w=.ok (a == b) w:=by
 simp [Op.equalIn,run_underlying h]
theorem eqd_slice {P:Program} {w:World} {t e:TypeId} {A:Option Addr} {n c:Nat} (d:Nat) (h:P.underlying t=some (.slice e)):(Op.equalIn (d+1) t (.slice A n c) (.slice none 0 0)).run P w=.ok A.isNone w:=by
 cases A <;> simp [Op.equalIn,run_underlying h]
theorem eqd_ptr {P:Program} {w:World} {t e:TypeId} {A:Option Addr} (d:Nat) (h:P.underlying t=some (.pointer e)):(Op.equalIn (d+1) t (.pointer A) (.pointer none)).run P w=.ok A.isNone w:=by
 cases A <;> simp [Op.equalIn,run_underlying h]
theorem eq_bool {P:Program} {w:World} {t:TypeId} (a b:Bool) (h:P.underlying t=some .bool):(Op.equal t (.bool a) (.bool b)).run P w=.ok (a == b) w:=eqd_bool 9999 h
theorem eq_slice {P:Program} {w:World} {t e:TypeId} {A:Option Addr} {n c:Nat} (h:P.underlying t=some (.slice e)):(Op.equal t (.slice A n c) (.slice none 0 0)).run P w=.ok A.isNone w:=eqd_slice 9999 h
theorem eq_ptr {P:Program} {w:World} {t e:TypeId} {A:Option Addr} (h:P.underlying t=some (.pointer e)):(Op.equal t (.pointer A) (.pointer none)).run P w=.ok A.isNone w:=eqd_ptr 9999 h
theorem bin_eq {P:Program} {w:World} {t:TypeId} {x y:Value} {r:Bool} (h:(Op.equal t x y).run P w=.ok r w) (hx:(∃ A n c,x=.slice A n c)∨(∃ b,x=.bool b)∨(∃ A,x=.pointer A∧y=.pointer none)) :
    (binOp .eql t x y).run P w=.ok (.bool r) w∧(binOp .neq t x y).run P w=.ok (.bool (!r)) w:=by
  rcases hx with ⟨A,n,c,rfl⟩ | ⟨b,rfl⟩ | ⟨A,rfl,rfl⟩
  · constructor <;> (simp only [binOp];simp [h])
  · constructor <;> (simp only [binOp];simp [h])
  · constructor <;> (simp only [binOp];simp [h])
section
variable {P:Program} {Θ:Tab} {s:St} {a:Act} {w:World} {S:Nat→Prop} {γ:Nat→Value} {op:Oper}
theorem run_intBin {b:BinOp} {t:TypeId} {k:IntKind} {x y:Int} {r:D} (hb:b≠.shl∧b≠.shr) (h:intBin b k x y=some r):∃ v,(binOp b t (.int k x) (.int k y)).run P w=.ok v w∧Rd w S r v:=by
 cases b <;> simp [intBin] at h hb <;> (first
  | (obtain ⟨h0,h⟩:=h;subst h;refine ⟨_,?_,Rd.int _ _⟩;simp [binOp,Op.intDiv,h0])
  | (subst h;first
   | (refine ⟨_,?_,Rd.int _ _⟩;simp [binOp,Op.intArith,Op.intBits,bitsOf];done)
   | (refine ⟨_,?_,Rd.bool _⟩;simp [binOp,Op.intCmp];done)))
theorem run_shBin {b:BinOp} {t:TypeId} {k k':IntKind} {x y:Int} {r:D} (h:shBin b k x y=some r):∃ v,(binOp b t (.int k x) (.int k' y)).run P w=.ok v w∧Rd w S r v:=by
 cases b <;> simp [shBin] at h <;> (obtain ⟨h0,h⟩:=h;subst h;refine ⟨_,?_,Rd.int _ _⟩;simp [binOp,Op.shift,Int.not_lt.2 h0])
theorem run_strBin {b:BinOp} {t:TypeId} {x y:List UInt8} {r:D} (h:strBin b x y=some r):∃ v,(binOp b t (.string ⟨x.toArray⟩) (.string ⟨y.toArray⟩)).run P w=.ok v w∧Rd w S r v:=by
 have hd:∀ x y:List UInt8,(x == y)=decide (x=y):=fun x y=>by rw [Bool.eq_iff_iff];simp
 cases b <;> simp only [strBin,Option.some.injEq,reduceCtorEq] at h
 case add=>
  split at h
  ·rename_i hle;simp only [Option.some.injEq] at h;subst h;refine ⟨.string ⟨(x++y).toArray⟩,?_,Rd.str _ (by simpa using hle)⟩;have hsz:¬ ((((⟨x.toArray⟩:ByteArray).size+(⟨y.toArray⟩:ByteArray).size:Nat):Int) > IntKind.i64.max):=by
    simp only [ByteArray.size,List.size_toArray];have:IntKind.i64.max=9223372036854775807:=by decide
    rw [this];omega
   have happ:(⟨x.toArray⟩:ByteArray)++(⟨y.toArray⟩:ByteArray)=⟨(x++y).toArray⟩:=by
    apply ByteArray.ext;apply Array.ext';simp
   simp only [binOp,Op.stringOp,if_neg hsz,happ];rfl
  ·cases h
 all_goals (subst h;refine ⟨_,?_,Rd.bool _⟩;simp [binOp,Op.stringOp,hd])
theorem done_binOp (hΘ:TabOk P Θ) (hf:Fr s a w S γ) {b:BinOp} {t u:TypeId} {x y:Operand} {K:SV→Prop} (ho:op.op=.binOp b t x y u) (h:bnOp Θ s.o b t (ev s.sl x) (ev s.sl y) K) :
    ∃ v,Done w S γ s.o s.nk ((execOp a.eval op).run P w) v s.o s.nk∧K v:=by
  have hx:=hf.ev x;have hy:=hf.ev y;have hrun:(execOp a.eval op).run P w=((eqGuard b t x y (a.eval x) (a.eval y)).run P w).andThen fun _ w=>((binOp b t (a.eval x) (a.eval y)).run P w).andThen fun u w'=>.ok (.value u) w':=by simp [execOp,ho]
  have key:∀ v:SV,(∀ cs,a.eval x≠.agg cs)→a.eval x≠.nilIface→(∃ r u,v=.d r∧(binOp b t (a.eval x) (a.eval y)).run P w=.ok u w∧Rd w S r u)→Done w S γ s.o s.nk ((execOp a.eval op).run P w) v s.o s.nk:=by
    rintro v h1 h2 ⟨r,u,rfl,h3,h4⟩;refine Done.now hf.sto (u:=u) ?_ (.d _ _ h4) trivial;rw [hrun,run_eqGuard_no h1 h2];simp [h3]
  generalize Abs.ev s.sl x=cx at h hx;generalize Abs.ev s.sl y=cy at h hy;generalize a.eval x=ux at hx key;generalize a.eval y=uy at hy key;unfold bnOp at h;split at h
  · cases hx with
    | d _ v hr=>cases hr with
      | int=>cases hy with
        | d _ v hr=>cases hr with
          | int=>
            split at h
            · obtain ⟨r,h1,hK⟩:=h;obtain ⟨u,h2,h3⟩:=run_shBin (P:=P) (w:=w) (S:=S) (t:=t) h1;exact ⟨_,key _ (by simp) (by simp) ⟨r,u,rfl,h2,h3⟩,hK⟩
            · obtain ⟨r,h1,hK⟩:=h;obtain ⟨u,h2,h3⟩:=run_shBin (P:=P) (w:=w) (S:=S) (t:=t) h1;exact ⟨_,key _ (by simp) (by simp) ⟨r,u,rfl,h2,h3⟩,hK⟩
            · rename_i hb1 hb2;obtain ⟨rfl,r,h1,hK⟩:=h;obtain ⟨u,h2,h3⟩:=run_intBin (P:=P) (w:=w) (S:=S) (t:=t) ⟨fun e=>hb1 e,fun e=>hb2 e⟩ h1;exact ⟨_,key _ (by simp) (by simp) ⟨r,u,rfl,h2,h3⟩,hK⟩
  · cases hx with
    | d _ v hr=>cases hr with
      | str=>cases hy with
        | d _ v hr=>cases hr with
          | str=>
            obtain ⟨r,h1,hK⟩:=h;obtain ⟨u,h2,h3⟩:=run_strBin (P:=P) (w:=w) (S:=S) (t:=t) h1;exact ⟨_,key _ (by simp) (by simp) ⟨r,u,rfl,h2,h3⟩,hK⟩
  · cases hx with
    | d _ v hr=>cases hr with
      | bool=>cases hy with
        | d _ v hr=>cases hr with
          | bool=>
            rename_i p q;obtain ⟨⟨i,hi,hk⟩,h⟩:=h;have hu:=bin_eq (eq_bool (w:=w) p q ((hΘ t i hi).bool hk)) (.inr (.inl ⟨_,rfl⟩));split at h
            · exact ⟨_,key _ (by simp) (by simp) ⟨_,_,rfl,hu.1,.bool _⟩,h⟩
            · exact ⟨_,key _ (by simp) (by simp) ⟨_,_,rfl,hu.2,.bool _⟩,h⟩
            · exact h.elim
  · cases hx with
    | d _ v hr=>cases hr with
      | nil=>cases hy with
        | d _ v hr=>cases hr with
          | nil=>
            obtain ⟨⟨i,e,hi,hk⟩,h⟩:=h;have hu:=bin_eq (eq_slice (w:=w) (A:=none) (n:=0) (c:=0) ((hΘ t i hi).slice hk)) (.inl ⟨_,_,_,rfl⟩);split at h
            · exact ⟨_,key _ (by simp) (by simp) ⟨_,_,rfl,hu.1,.bool _⟩,h⟩
            · exact ⟨_,key _ (by simp) (by simp) ⟨_,_,rfl,hu.2,.bool _⟩,h⟩
            · exact h.elim
  · rename_i z xs;obtain ⟨⟨i,e,hi,hk⟩,h⟩:=h;cases hx with
    | d _ v hr=>cases hy with
      | d _ v' hr'=>cases hr' with
        | nil=>
          have h0:∃ (A:Option Addr) (n c:Nat),ux=.slice A n c∧(A.isNone=true→xs=[]):=by
            cases hr with
            | emp z A c hm=>exact ⟨A,0,c,rfl,fun _=>rfl⟩
            | sl z xs ad c vs h1 h2 h3 h4 h5 h6 h7=>exact ⟨some ad,_,c,rfl,by simp⟩
          obtain ⟨A,n,c,rfl,h1⟩:=h0;have hu:=bin_eq (eq_slice (w:=w) (A:=A) (n:=n) (c:=c) ((hΘ t i hi).slice hk)) (.inl ⟨_,_,_,rfl⟩);split at h
          · exact ⟨_,key _ (by simp) (by simp) ⟨_,_,rfl,hu.1,.bool _⟩,h _ h1⟩
          · exact ⟨_,key _ (by simp) (by simp) ⟨_,_,rfl,hu.2,.bool _⟩,h _ (by cases A <;> simp_all)⟩
          · exact h.elim
  · cases hx with
    | d _ v hr=>cases hr with
      | nilp=>cases hy with
        | d _ v hr=>cases hr with
          | nilp=>
            obtain ⟨⟨i,e,hi,hk⟩,h⟩:=h;have hu:=bin_eq (eq_ptr (w:=w) (A:=none) ((hΘ t i hi).ptr hk)) (.inr (.inr ⟨_,rfl,rfl⟩));split at h
            · exact ⟨_,key _ (by simp) (by simp) ⟨_,_,rfl,hu.1,.bool _⟩,h⟩
            · exact ⟨_,key _ (by simp) (by simp) ⟨_,_,rfl,hu.2,.bool _⟩,h⟩
            · exact h.elim
  · cases hx with
    | loc _ off v hv=>
      obtain ⟨⟨i,e,hi,hk⟩,⟨cs,hcs⟩,h⟩:=h;obtain ⟨g,hg0,rfl⟩:=hv cs hcs;rename_i q0 f0;cases hy with
      | d _ v hr=>cases hr with
        | nilp=>
          have hu:=bin_eq (eq_ptr (w:=w) (A:=some ⟨g,f0,none⟩) ((hΘ t i hi).ptr hk)) (.inr (.inr ⟨_,rfl,rfl⟩));split at h
          · exact ⟨_,key _ (by simp) (by simp) ⟨_,_,rfl,hu.1,.bool _⟩,h⟩
          · exact ⟨_,key _ (by simp) (by simp) ⟨_,_,rfl,hu.2,.bool _⟩,h⟩
          · exact h.elim
  · exact h.elim
def unOpD (op:UnOp):SV→Option D
 | .d (.bool b)=>match op with
  | .not=>some (.bool (!b))
  | _=>none
 | .d (.int k n)=>match op with
  | .neg=>some (.int k (k.wrap (0 - n)))
  | .xor=>some (.int k (bitsOf .xor k (if k.signed then -1 else k.max) n))
  | _=>none
 | _=>none
theorem done_unOp (hf:Fr s a w S γ) {b:UnOp} {t:TypeId} {x:Operand} {r:D} (ho:op.op=.unOp b t x) (h:unOpD b (ev s.sl x)=some r):Done w S γ s.o s.nk ((execOp a.eval op).run P w) (.d r) s.o s.nk:=by
 have hx:=hf.ev x;have hrun:(execOp a.eval op).run P w=((Op.unary b (a.eval x)).run P w).andThen fun u w'=>.ok (.value u) w':=by simp [execOp,ho]
 generalize Abs.ev s.sl x=c at h hx;generalize a.eval x=ux at hx hrun;unfold unOpD at h;split at h
 ·cases hx with
  | d _ v hr=>cases hr with
   | bool=>
    cases b <;> simp at h
    subst h;exact Done.now hf.sto (by rw [hrun];simp [Op.unary]) (.d _ _ (.bool _)) trivial
 ·cases hx with
  | d _ v hr=>cases hr with
   | int=>
    cases b <;> simp at h
    ·subst h;exact Done.now hf.sto (by rw [hrun];simp [Op.unary,Op.intArith]) (.d _ _ (.int _ _)) trivial
    ·subst h;exact Done.now hf.sto (by rw [hrun];simp [Op.unary,Op.intBits,bitsOf]) (.d _ _ (.int _ _)) trivial
 ·cases h
end
def setM (arr:Array Value) (o:Nat):List Value→Array Value
 | []=>arr
 | v :: r=>setM (arr.setIfInBounds o v) (o+1) r
theorem setM_size:∀ (vs:List Value) (arr:Array Value) (o:Nat),(setM arr o vs).size=arr.size
 | [],_,_=>rfl
 | v :: r,arr,o=>by simp [setM,setM_size r]
theorem setM_get:∀ (vs:List Value) (arr:Array Value) (o i:Nat),o+vs.length≤arr.size→
    (setM arr o vs)[i]?=if o≤i∧i < o+vs.length then vs[i - o]? else arr[i]?
  | [],arr,o,i,h=>by simp [setM];omega
  | v :: r,arr,o,i,h=>by
    simp only [List.length_cons] at h;rw [setM,setM_get r _ (o+1) i (by simp;omega)];by_cases h1:o+1≤i∧i < o+1+r.length
    · rw [if_pos h1,if_pos (by simp;omega)];rw [show i - o=(i - (o+1))+1 by omega];simp
    · rw [if_neg h1];by_cases h2:i=o
      · subst h2;rw [if_pos (by simp)];simp [Array.getElem?_setIfInBounds,show i < arr.size by omega]
      · rw [if_neg (by simp;omega)];simp [Array.getElem?_setIfInBounds,Ne.symm h2]
theorem fold_setM:∀ (vs:List Value) (arr:Array Value) (o k:Nat),(vs.zipIdx k).foldl (fun cs p=>cs.setIfInBounds (o+p.2) p.1) arr=setM arr (o+k) vs
 | [],_,_,_=>rfl
 | v :: r,arr,o,k=>by
  simp only [List.zipIdx_cons,List.foldl_cons,setM];rw [fold_setM r _ o (k+1)];rfl
theorem setCells_heap {g:Nat} {ty:TypeId} {fr:Nat×Nat}:∀ (vs:List Value) (o:Nat) (w:World) (arr:Array Value),w.heap[g]?=some (.cells arr ty fr)→(w.setCells g o vs).heap[g]?=some (.cells (setM arr o vs) ty fr)
 | [],_,_,_,h=>h
 | v :: r,o,w,arr,h=>by
  rw [World.setCells,setM];refine setCells_heap r (o+1) _ _ ?_;have hlt:=(Array.getElem?_eq_some_iff.1 h).1;simp [World.setCell,Array.getElem?_modify,h]
theorem setCells_other {g k:Nat} (hne:k≠g):∀ (vs:List Value) (o:Nat) (w:World),(w.setCells g o vs).heap[k]?=w.heap[k]?
 | [],_,_=>rfl
 | v :: r,o,w=>by
  rw [World.setCells,setCells_other hne r];exact RowKit.Below.heap_setCell w ⟨g,o,none⟩ v k hne
theorem setCells_same (g:Nat):∀ (vs:List Value) (o:Nat) (w:World),(w.setCells g o vs).os=w.os∧(w.setCells g o vs).tape=w.tape∧(w.setCells g o vs).output=w.output∧(w.setCells g o vs).heap.size=w.heap.size
 | [],_,_=>⟨rfl,rfl,rfl,rfl⟩
 | v :: r,o,w=>by
  obtain ⟨h1,h2,h3,h4⟩:=setCells_same g r (o+1) (w.setCell ⟨g,o,none⟩ v);exact ⟨h1,h2,h3,h4.trans (by simp)⟩
theorem Sto.set_box {w w':World} {S:Nat→Prop} {γ:Nat→Value} {o:Nat→Option AO} {nk:Nat} (h:Sto w S γ o nk) {t g:Nat} {cs0 cs:List SV} {arr:Array Value} {ty:TypeId}
    (ht:o t=some (.box cs0)) (hg:γ t=.pointer (some ⟨g,0,none⟩)) (hw:w'.heap[g]?=some (.cells arr ty (0,0))) (hoth:∀ k,k≠g→w'.heap[k]?=w.heap[k]?)
    (hsame:w'.os=w.os∧w'.tape=w.tape∧w'.output=w.output∧w'.heap.size=w.heap.size) (hsz:arr.size=cs.length)
    (hr:∀ (i:Nat) (c:SV) (u:Value),cs[i]?=some c→arr[i]?=some u→SR w S γ o c u) (hl:SV.lts nk cs) :
    Sto w' S γ (upd o t (some (.box cs))) nk∧Tr w S γ o nk w' S γ (upd o t (some (.box cs))) nk:=by
  have hSg:∀ k,S k→k≠g:=fun k hk e=>(h.away t _ g ht (by rw [hg];rfl)).1 (e ▸ hk);have hup:∀ u x,upd o t (some (.box cs)) u=some x→∃ y,o u=some y∧AO.kin y x:=by
    intro u x hx;unfold upd at hx;split at hx
    · rename_i he;subst he;simp only [Option.some.injEq] at hx;subst hx;exact ⟨_,ht,by simp [AO.kin]⟩
    · exact ⟨x,hx,AO.kin_refl x⟩
  have hkeys:∀ u x,u < nk→upd o t (some (.box cs)) u=some x→∃ y,o u=some y∧AO.kin y x∧γ u=γ u:=fun u x _ hx=>by
    obtain ⟨y,h1,h2⟩:=hup u x hx;exact ⟨y,h1,h2,rfl⟩
  have hmv:∀ {c:SV} {v:Value},SR w S γ o c v→c.lt nk→SR w' S γ (upd o t (some (.box cs))) c v:=fun hc hl=>hc.move (fun _ h=>h) (fun k hk=>hoth k (hSg k hk)) hkeys hl;have hraw:∀ u ob,upd o t (some (.box cs)) u=some (.raw ob)→RawAt w' S (γ u) ob:=by
    intro u ob hx;have hu:u≠t:=fun e=>by subst e;rw [upd_same] at hx;cases hx
    rw [upd_ne _ _ hu] at hx;refine (h.raw u ob hx).kept (fun _ h=>h) (fun k hk=>hoth k (hSg k hk)) fun b hb=>hoth b fun e=>?_;exact h.apart u t _ _ g hu hx ht (e ▸ hb) (by rw [hg];rfl)
  refine ⟨⟨fun k hk=>by rw [hsame.2.2.2];exact h.s_lt k hk,fun u x hx=>?_,fun u cs' hc=>?_,fun u e z xs hx=>?_,hraw,fun u x b hx hb=>?_,fun u u' x x' b hne hx hx' hb hb'=>?_⟩,
    ⟨hsame.1,hsame.2.1,hsame.2.2.1,Nat.le_of_eq hsame.2.2.2.symm,Nat.le_refl _,fun k hk hn=>hoth k fun e=>hn ⟨t,_,ht,by rw [hg,e];rfl⟩,fun _ h=>h,fun _ h=>.inl h,?_,hkeys⟩⟩
  · obtain ⟨y,h1,_⟩:=hup u x hx;exact h.o_lt u y h1
  · by_cases hu:u=t
    · subst hu;rw [upd_same] at hc;simp only [Option.some.injEq,AO.box.injEq] at hc;subst hc;exact ⟨⟨g,arr,ty,hg,hw,hsz,fun i c v h1 h2=>hmv (hr i c v h1 h2) (lts_get hl i c h1)⟩,hl⟩
    · rw [upd_ne _ _ hu] at hc;obtain ⟨⟨g',arr',ty',h4,h5,h6,h7⟩,hl'⟩:=h.box u cs' hc;have hne:g'≠g:=fun e=>h.apart u t _ _ g hu hc ht (by rw [h4,e];rfl) (by rw [hg];rfl);exact ⟨⟨g',arr',ty',h4,by rw [hoth g' hne];exact h5,h6,fun i c v h1 h2=>hmv (h7 i c v h1 h2) (lts_get hl' i c h1)⟩,hl'⟩
  · have hu:u≠t:=fun e=>by subst e;rw [upd_same] at hx;cases hx
    rw [upd_ne _ _ hu] at hx;obtain ⟨vs,h1,h2,h3,h4⟩:=(h.row u e z xs hx).out;refine ⟨vs,h1.kept (w':=w') (row:=some g) ⟨hsame.1,hsame.2.1,hsame.2.2.1,Nat.le_of_eq hsame.2.2.2.symm,fun k _ hk=>hoth k fun e=>hk (by rw [e])⟩ ?_,h2,fun i x v h5 h6=>(h3 i x v h5 h6).mono (fun _ h=>h) (fun k hk=>hoth k (hSg k hk)),h4⟩;right;intro hb;refine h.apart u t _ _ g hu hx ht ?_ (by rw [hg];rfl);rcases h1.2 with ⟨he,_⟩ | ⟨g',cap,cur,he,_⟩
    · rw [he] at hb;simp [Value.ownBlock] at hb
    · rw [he] at hb ⊢;simpa [Value.ownBlock,blk] using hb
  · obtain ⟨y,h1,_⟩:=hup u x hx;have:=h.away u y b h1 hb;exact ⟨this.1,by rw [hsame.2.2.2];exact this.2⟩
  · obtain ⟨y,h1,_⟩:=hup u x hx;obtain ⟨y',h1',_⟩:=hup u' x' hx';exact h.apart u u' y y' b hne h1 h1' hb hb'
  · rintro b ⟨u,x,hx,hb⟩;obtain ⟨y,h1,_⟩:=hup u x hx;exact .inr ⟨u,y,h1,hb⟩
def stOp (Θ:Tab) (o:Nat→Option AO) (t:TypeId) (x y:SV) (K:(Nat→Option AO)→Prop):Prop:=
 ∃ i ys,Θ t=some i∧y.cells o=some ys∧ys.length=i.sz∧
  match x with
  | .loc k f=>∃ cs,o k=some (.box cs)∧f+ys.length≤cs.length∧K (upd o k (some (.box (cs.take f++ys++cs.drop (f+ys.length)))))
  | _=>False
section
variable {P:Program} {Θ:Tab} {s:St} {a:Act} {w:World} {S:Nat→Prop} {γ:Nat→Value} {op:Oper}
theorem done_store (hΘ:TabOk P Θ) (hf:Fr s a w S γ) {t:TypeId} {x y:Operand} {K:(Nat→Option AO)→Prop} (ho:op.op=.store t x y) (h:stOp Θ s.o t (ev s.sl x) (ev s.sl y) K) :
    ∃ o',Done w S γ s.o s.nk ((execOp a.eval op).run P w) .any o' s.nk∧K o':=by
  obtain ⟨i,ys,hi,hc,hsz,h⟩:=h;obtain ⟨h1,h2,h3,h4⟩:=SV.cells_sr hf.sto (hf.ev y) (hf.lt y) hc;have hx:=hf.ev x;have hrun:(execOp a.eval op).run P w=((Instr.storeAt t (a.eval x) (a.eval y)).run P w).andThen fun _ w'=>.ok .skip w':=by simp [execOp,ho]
  generalize Abs.ev s.sl x=c at h hx;generalize a.eval x=ux at hx hrun;generalize a.eval y=uy at h1 h2 h3 hrun;cases c with
  | loc k f=>
    obtain ⟨cs,hk,hle,hK⟩:=h;obtain ⟨⟨g,arr,ty,k1,k2,k3,k4⟩,hl⟩:=hf.sto.box k cs hk;cases hx with
    | loc _ _ v hv=>
      obtain ⟨g',k5,rfl⟩:=hv cs hk;rw [k1] at k5;simp at k5;subst k5;have hus:uy.cells.toList.length=ys.length:=by rw [Array.length_toList];exact h1
      have hst:(storeCells ⟨g,f,none⟩ uy.cells.toList).run P w=.ok () (w.setCells g f uy.cells.toList):=by
        have:=run_storeCells_cells (P:=P) g f uy.cells.toList 0 w (fun j hj=>by
          rw [cell_at k2];rw [Array.getElem?_eq_getElem (show f+0+j < arr.size by rw [k3];omega)];rfl) (fun j hj=>by simp [World.frozen?,k2]) h3
        simpa using this
      have hhp:=setCells_heap (g:=g) uy.cells.toList f w arr k2;have hle':f+uy.cells.toList.length≤arr.size:=by rw [k3];omega
      have e1:(setM arr f uy.cells.toList).size=(cs.take f++ys++cs.drop (f+ys.length)).length:=by
        rw [setM_size,k3];simp only [List.length_append,List.length_take,List.length_drop];omega
      have e2:∀ (j:Nat) (c:SV) (u:Value),(cs.take f++ys++cs.drop (f+ys.length))[j]?=some c→(setM arr f uy.cells.toList)[j]?=some u→SR w S γ s.o c u:=by
        intro j c u hc hu;rw [setM_get _ _ _ _ hle'] at hu;by_cases hj1:j < f
        · rw [if_neg (by omega)] at hu;have:cs[j]?=some c:=by
            rw [List.append_assoc,List.getElem?_append_left (by simp;omega),List.getElem?_take,if_pos hj1] at hc;exact hc
          exact k4 j c u this hu
        · by_cases hj2:j < f+ys.length
          · rw [if_pos (by omega)] at hu;have:ys[j - f]?=some c:=by
              rw [List.append_assoc,List.getElem?_append_right (by simp;omega),List.getElem?_append_left (by simp;omega)] at hc;simpa [Nat.min_eq_left (show f≤cs.length by omega)] using hc
            exact h2 (j - f) c u this (by simpa using hu)
          · rw [if_neg (by omega)] at hu;have:cs[j]?=some c:=by
              rw [List.getElem?_append_right (by simp;omega),List.getElem?_drop] at hc;simp only [List.length_append,List.length_take,Nat.min_eq_left (show f≤cs.length by omega)] at hc
              rwa [show f+ys.length+(j - (f+ys.length))=j by omega] at hc
            exact k4 j c u this hu
      have e3:SV.lts s.nk (cs.take f++ys++cs.drop (f+ys.length)):=lts_of fun j c hc=>by
        have hm:=List.mem_of_getElem? hc;simp only [List.mem_append] at hm;rcases hm with (hm | hm) | hm
        · obtain ⟨q,hq⟩:=List.getElem?_of_mem (List.mem_of_mem_take hm);exact lts_get hl q c hq
        · obtain ⟨q,hq⟩:=List.getElem?_of_mem hm;exact lts_get h4 q c hq
        · obtain ⟨q,hq⟩:=List.getElem?_of_mem (List.mem_of_mem_drop hm);exact lts_get hl q c hq
      obtain ⟨m1,m2⟩:=hf.sto.set_box (w':=w.setCells g f uy.cells.toList) hk k1 hhp (fun k hk=>setCells_other hk _ _ _) (setCells_same g _ _ _) e1 e2 e3;refine ⟨_,⟨undef,_,S,γ,.inr ⟨?_,rfl⟩,m1,m2,.any _,trivial⟩,hK⟩;rw [hrun];have:uy.cells.size=i.sz:=h1.trans hsz;simp [Instr.storeAt,Instr.sureAddr,storeVar,(hΘ t i hi).run_size,this,hst]
  | _=>exact h.elim
end
def D.leaves:D→List D
 | .agg xs=>xs
 | x=>[x]
def fillL (place:Nat→Option (Nat×Nat)) (cells:List D):List (Nat×SV)→Option (List D)
 | []=>some cells
 | (i,.d x) :: r=>match place i with
  | some (off,size)=>if x.width=size∧off+size≤cells.length then fillL place (cells.take off++x.leaves++cells.drop (off+x.width)) r else none
  | none=>none
 | _ :: _=>none
def Lv (w:World) (S:Nat→Prop) (ds:List D) (arr:Array Value):Prop:=
 arr.size=ds.length∧ds.all D.leaf=true∧∀ (i:Nat) (d:D) (u:Value),ds[i]?=some d→arr[i]?=some u→Rd w S d u
theorem leaves_rd {w:World} {S:Nat→Prop} {x:D} {v:Value} (h:Rd w S x v):Lv w S x.leaves v.cells∧x.leaves.length=x.width:=by
 by_cases hl:x.leaf=true
 ·have h1:x.leaves=[x]:=by cases x <;> simp [D.leaf,D.leaves] at hl ⊢
  have h2:x.width=1:=by cases x <;> simp [D.leaf,D.width] at hl ⊢
  rw [h1,h2,h.leaf_cells hl];refine ⟨⟨rfl,by simpa using hl,fun i d u hd hu=>?_⟩,rfl⟩;cases i with
  | zero=>simp at hd hu;subst hd;subst hu;exact h
  | succ i=>simp at hd
 ·cases h with
  | agg xs vs h1 h2 h3=>exact ⟨⟨by simp [Value.cells,D.leaves,h2],h1,fun i d u hd hu=>h3 i d u hd (by simpa [Value.cells] using hu)⟩,rfl⟩
  | _=>simp [D.leaf] at hl
theorem fill_lv {w:World} {S:Nat→Prop} {place place':Nat→Option (Nat×Nat)} (hp:∀ i q,place i=some q→place' i=some q):∀ (parts:List (Nat×SV)) (vals:List (Nat×Value)) (ds:List D) (arr:Array Value) (ds':List D),
    Lv w S ds arr→parts.length=vals.length→(∀ (k:Nat) (p:Nat×SV) (q:Nat×Value),parts[k]?=some p→vals[k]?=some q→p.1=q.1∧∀ x,p.2=.d x→Rd w S x q.2)→fillL place ds parts=some ds'→
    ∃ arr',Instr.fill place' arr vals=some arr'∧Lv w S ds' arr'
  | [],[],ds,arr,ds',h,_,_,hf=>by
    simp only [fillL,Option.some.injEq] at hf;subst hf;exact ⟨arr,rfl,h⟩
  | (i,.d x) :: r,(j,v) :: q,ds,arr,ds',h,hl,hr,hf=>by
    obtain ⟨hij,hx⟩:=hr 0 _ _ rfl rfl;simp only at hij;subst hij;have hrd:=hx x rfl;simp only [fillL] at hf;split at hf
    · rename_i off size hpl;split at hf
      · rename_i hc;obtain ⟨⟨l1,l2,l3⟩,l4⟩:=leaves_rd hrd;obtain ⟨s1,s2,s3⟩:=h;have hvs:v.cells.size=x.width:=hrd.width;have hlen:v.cells.toList.length=x.width:=by rw [Array.length_toList];exact hvs
        have hle':off+v.cells.toList.length≤arr.size:=by rw [hlen,s1];omega
        have e:Lv w S (ds.take off++x.leaves++ds.drop (off+x.width)) (setM arr off v.cells.toList):=by
          refine ⟨?_,?_,?_⟩
          · rw [setM_size,s1];simp only [List.length_append,List.length_take,List.length_drop,l4];omega
          · simp only [List.all_append,Bool.and_eq_true];refine ⟨⟨?_,l2⟩,?_⟩
            · rw [List.all_eq_true] at s2 ⊢;exact fun d hd=>s2 d (List.mem_of_mem_take hd)
            · rw [List.all_eq_true] at s2 ⊢;exact fun d hd=>s2 d (List.mem_of_mem_drop hd)
          · intro k d u hd hu;rw [setM_get _ _ _ _ hle',hlen] at hu;by_cases hj1:k < off
            · rw [if_neg (by omega)] at hu;rw [List.append_assoc,List.getElem?_append_left (by simp;omega),List.getElem?_take,if_pos hj1] at hd;exact s3 k d u hd hu
            · by_cases hj2:k < off+x.width
              · rw [if_pos (by omega)] at hu;rw [List.append_assoc,List.getElem?_append_right (by simp;omega),List.getElem?_append_left (by simp [l4];omega)] at hd;simp only [List.length_take,Nat.min_eq_left (show off≤ds.length by omega)] at hd;exact l3 (k - off) d u hd (by simpa using hu)
              · rw [if_neg (by omega)] at hu;rw [List.getElem?_append_right (by simp [l4];omega),List.getElem?_drop] at hd;simp only [List.length_append,List.length_take,l4,Nat.min_eq_left (show off≤ds.length by omega)] at hd;rw [show off+x.width+(k - (off+x.width))=k by omega] at hd;exact s3 k d u hd hu
        obtain ⟨arr',h1,h2⟩:=fill_lv (w:=w) (S:=S) hp r q (ds.take off++x.leaves++ds.drop (off+x.width)) (setM arr off v.cells.toList) ds' e (by simpa using hl) (fun k p q' h1 h2=>hr (k+1) p q' (by simpa using h1) (by simpa using h2)) hf;refine ⟨arr',?_,h2⟩;simp only [Instr.fill,hp _ _ hpl];have hn:¬ ((decide (v.cells.size≠size) || decide (off+v.cells.size > arr.size))=true):=by
          simp [hvs,s1,hc.1];omega
        rw [if_neg hn];have:=fold_setM v.cells.toList arr off 0;simp only [Nat.add_zero] at this;rw [← h1,← this,← Array.foldl_toList,Array.toList_zipIdx]
      · cases hf
    · cases hf
  | (i,.loc _ _) :: r,_ :: q,ds,arr,ds',h,hl,hr,hf=>by simp [fillL] at hf
  | (i,.row _) :: r,_ :: q,ds,arr,ds',h,hl,hr,hf=>by simp [fillL] at hf
  | (i,.el _) :: r,_ :: q,ds,arr,ds',h,hl,hr,hf=>by simp [fillL] at hf
  | (i,.rel _ _ _) :: r,_ :: q,ds,arr,ds',h,hl,hr,hf=>by simp [fillL] at hf
  | (i,.raw _) :: r,_ :: q,ds,arr,ds',h,hl,hr,hf=>by simp [fillL] at hf
  | (i,.view _ _ _ _) :: r,_ :: q,ds,arr,ds',h,hl,hr,hf=>by simp [fillL] at hf
  | (i,.dx _ _) :: r,_ :: q,ds,arr,ds',h,hl,hr,hf=>by simp [fillL] at hf
  | (i,.clo _ _ _) :: r,_ :: q,ds,arr,ds',h,hl,hr,hf=>by simp [fillL] at hf
  | (i,.tup _) :: r,_ :: q,ds,arr,ds',h,hl,hr,hf=>by simp [fillL] at hf
  | (i,.ag _) :: r,_ :: q,ds,arr,ds',h,hl,hr,hf=>by simp [fillL] at hf
  | (i,.any) :: r,_ :: q,ds,arr,ds',h,hl,hr,hf=>by simp [fillL] at hf
theorem zero_lv {P:Program} {Θ:Tab} (hΘ:TabOk P Θ) {w:World} {S:Nat→Prop} {t:TypeId} {i:TI} {l:List D} (hi:Θ t=some i) (hz:i.z=some l) :
    ∃ x zv,P.info? t=some x∧x.zero=some zv∧Lv w S l zv.cells:=by
  obtain ⟨z1,z2⟩:=(hΘ t i hi).zc hz;obtain ⟨x,hx,_⟩:=(hΘ t i hi).info;cases hz0:x.zero with
  | none=>simp [hx,hz0] at z1
  | some zv=>
    simp [hx,hz0] at z1;refine ⟨x,zv,hx,hz0,?_,?_,?_⟩
    · have:=congrArg List.length z1;simpa using this
    · rw [List.all_eq_true] at z2 ⊢;intro d hd;have:=z2 d hd;cases d <;> simp [D.zok,D.leaf] at this ⊢
    · intro j d u hd hu;have h1:zv.cells.toList[j]?=some u:=by simpa using hu
      rw [z1,List.getElem?_map,hd] at h1;simp at h1;subst h1;exact zok_rd (List.all_eq_true.1 z2 d (List.mem_of_getElem? hd))
def placeOf (Θ:Tab) (fs:List (Nat×Nat)) (i:Nat):Option (Nat×Nat):=
 match fs[i]? with
 | some (off,ft)=>(Θ ft).map fun j=>(off,j.sz)
 | none=>none
def buOp (Θ:Tab) (t:TypeId) (parts:List (Nat×SV)) (K:SV→Prop):Prop:=
 ∃ i fs l ds,Θ t=some i∧i.k=.struct fs∧i.z=some l∧fillL (placeOf Θ fs) l parts=some ds∧K (.d (.agg ds))
section
variable {P:Program} {Θ:Tab} {s:St} {a:Act} {w:World} {S:Nat→Prop} {γ:Nat→Value} {op:Oper}
theorem parts_rd (hf:Fr s a w S γ) (parts:Array (Nat×Operand)):∀ (k:Nat) (p:Nat×SV) (q:Nat×Value),(parts.toList.map fun p=>(p.1,ev s.sl p.2))[k]?=some p→(parts.map fun p=>(p.1,a.eval p.2)).toList[k]?=some q→p.1=q.1∧∀ x,p.2=.d x→Rd w S x q.2:=by
 intro k p q h1 h2;rw [List.getElem?_map] at h1;obtain ⟨⟨i,x⟩,hx,rfl⟩:=Option.map_eq_some_iff.1 h1;rw [Array.toList_map,List.getElem?_map,hx] at h2;simp only [Option.map_some,Option.some.injEq] at h2;subst h2;refine ⟨rfl,fun d hd=>?_⟩;have:=hf.ev x;simp only at hd;rw [hd] at this;cases this with
 | d _ v h=>exact h
theorem done_build (hΘ:TabOk P Θ) (hf:Fr s a w S γ) {t:TypeId} {parts:Array (Nat×Operand)} {K:SV→Prop} (ho:op.op=.build t parts) (h:buOp Θ t (parts.toList.map fun p=>(p.1,ev s.sl p.2)) K) :
    ∃ v,Done w S γ s.o s.nk ((execOp a.eval op).run P w) v s.o s.nk∧K v:=by
  obtain ⟨i,fs,l,ds,hi,hk,hz,hfl,hK⟩:=h;obtain ⟨x,zv,hx,hz0,hlv⟩:=zero_lv hΘ (w:=w) (S:=S) hi hz;obtain ⟨F,h1,h2,h3⟩:=(hΘ t i hi).struct hk;have hplaces:F.toList.mapM (fun f=>(P.info? f.type).map fun i=>(f.offset,i.size))=some (F.toList.map fun f=>(f.offset,P.cellsOf f.type)):=by
    clear h2;generalize F.toList=L at h3
    induction L with
    | nil=>rfl
    | cons f L ih=>
      have hf:=h3 f (by simp);obtain ⟨y,hy⟩:=Option.isSome_iff_exists.1 hf;rw [List.mapM_cons,ih (fun g hg=>h3 g (by simp [hg]))];simp [hy,Program.cellsOf]
  obtain ⟨arr,h4,h5⟩:=fill_lv (place':=fun i=>(F.toList.map fun f=>(f.offset,P.cellsOf f.type)).toArray[i]?) (fun j q hq=>by
    unfold placeOf at hq;split at hq
    · rename_i off ft hfd;obtain ⟨jt,hj,rfl⟩:=Option.map_eq_some_iff.1 hq;rw [h2,List.getElem?_map] at hfd;obtain ⟨fd,hfd1,hfd2⟩:=Option.map_eq_some_iff.1 hfd;simp only [Prod.mk.injEq] at hfd2;obtain ⟨rfl,rfl⟩:=hfd2;simp only [List.getElem?_toArray,List.getElem?_map,hfd1,Option.map_some,(hΘ _ jt hj).cells]
    · cases hq) _ _ _ _ ds hlv (by simp) (parts_rd hf parts) hfl
  refine ⟨_,Done.now hf.sto (u:=.agg arr) ?_ (.d _ _ ?_) trivial,hK⟩
  · have hrun:(execOp a.eval op).run P w=((Instr.build t (parts.map fun p=>(p.1,a.eval p.2))).run P w).andThen fun u w'=>.ok (.value u) w':=by simp [execOp,ho]
    rw [hrun,run_build w t _ arr (by simp only [Program.built,hx,h1,hz0,hplaces];exact h4)];rfl
  · have:arr=arr.toList.toArray:=by simp
    rw [this];exact .agg ds arr.toList h5.2.1 (by simpa using h5.1) fun i d u hd hu=>h5.2.2 i d u hd (by simpa using hu)
end
def killo (o:Nat→Option AO):Option Nat→Nat→Option AO
 | none=>o
 | some t=>upd o t none
theorem killo_some {o:Nat→Option AO} {q:Option Nat} {t:Nat} {x:AO} (h:killo o q t=some x):o t=some x∧q≠some t:=by
 cases q with
 | none=>exact ⟨h,by simp⟩
 | some u=>
  simp only [killo,upd] at h;split at h
  ·cases h
  ·rename_i hne;exact ⟨h,fun e=>hne (by injection e with e;exact e.symm)⟩
theorem Sto.put_row {w w':World} {S:Nat→Prop} {γ:Nat→Value} {o:Nat→Option AO} {nk:Nat} (h:Sto w S γ o nk) (q:Option Nat) {v:Value} {e:TypeId} {z:Nat} {xs:List D} (row:Option Nat)
    (hq:∀ t,q=some t→∃ x,o t=some x∧row=blk (γ t)) (hq0:q=none→row=none)
    (hos:w'.os=w.os) (htp:w'.tape=w.tape) (hou:w'.output=w.output) (hsz:w.heap.size≤w'.heap.size) (hk:∀ k,k < w.heap.size→some k≠row→w'.heap[k]?=w.heap[k]?)
    (hR:RowAt w' S v e z xs) (hb:∀ g,blk v=some g→g < w'.heap.size∧(w.heap.size≤g∨row=some g)) :
    Sto w' S (upd γ nk v) (upd (killo o q) nk (some (.row e z xs))) (nk+1)∧Tr w S γ o nk w' S (upd γ nk v) (upd (killo o q) nk (some (.row e z xs))) (nk+1):=by
  have hrow:∀ g,row=some g→∃ t x,q=some t∧o t=some x∧blk (γ t)=some g:=by
    intro g hg;cases q with
    | none=>rw [hq0 rfl] at hg;cases hg
    | some t=>
      obtain ⟨x,h1,h2⟩:=hq t rfl;exact ⟨t,x,rfl,h1,by rw [← h2,hg]⟩
  have hSk:∀ k,S k→w'.heap[k]?=w.heap[k]?:=fun k hS=>hk k (h.s_lt k hS) fun e=>by
    obtain ⟨t,x,_,h1,h2⟩:=hrow k e.symm;exact (h.away t x k h1 h2).1 hS
  have hlt:∀ t x,killo o q t=some x→t < nk:=fun t x hx=>h.o_lt t x (killo_some hx).1;have hoth:∀ t x g,killo o q t=some x→blk (γ t)=some g→w'.heap[g]?=w.heap[g]?:=fun t x g hx hg=>by
    obtain ⟨h1,h2⟩:=killo_some hx;refine hk g (h.away t x g h1 hg).2 fun e=>?_;obtain ⟨t',x',h3,h4,h5⟩:=hrow g e.symm;exact h.apart t t' x x' g (fun e=>h2 (by rw [h3,e])) h1 h4 hg h5
  have hkeys:∀ t x,t < nk→upd (killo o q) nk (some (.row e z xs)) t=some x→∃ y,o t=some y∧AO.kin y x∧upd γ nk v t=γ t:=by
    intro t x ht hx;rw [upd_ne _ _ (by omega)] at hx;exact ⟨x,(killo_some hx).1,AO.kin_refl x,upd_ne _ _ (by omega)⟩
  have hlive:∀ t x g,upd (killo o q) nk (some (.row e z xs)) t=some x→blk (upd γ nk v t)=some g→(t=nk∧blk v=some g)∨(t≠nk∧killo o q t=some x∧blk (γ t)=some g):=by
    intro t x g hx hg;by_cases ht:t=nk
    · subst ht;rw [upd_same] at hg;exact .inl ⟨rfl,hg⟩
    · rw [upd_ne _ _ ht] at hx hg;exact .inr ⟨ht,hx,hg⟩
  have hraw:∀ t ob,upd (killo o q) nk (some (.row e z xs)) t=some (.raw ob)→RawAt w' S (upd γ nk v t) ob:=by
    intro t ob hx;by_cases ht:t=nk
    · subst ht;rw [upd_same] at hx;cases hx
    · rw [upd_ne _ _ ht] at hx;rw [upd_ne _ _ ht];exact (h.raw t ob (killo_some hx).1).kept (fun _ h=>h) hSk fun g hg=>hoth t _ g hx hg
  refine ⟨⟨fun k hS=>Nat.lt_of_lt_of_le (h.s_lt k hS) hsz,?_,?_,?_,hraw,?_,?_⟩,⟨hos,htp,hou,hsz,Nat.le_succ _,?_,fun _ h=>h,fun _ h=>.inl h,?_,hkeys⟩⟩
  · intro t x hx;by_cases ht:t=nk
    · omega
    · rw [upd_ne _ _ ht] at hx;have:=hlt t x hx;omega
  · intro t cs hc;have ht:t≠nk:=fun e'=>by subst e';rw [upd_same] at hc;cases hc
    rw [upd_ne _ _ ht] at hc;rw [upd_ne _ _ ht];obtain ⟨⟨g,arr,ty,h4,h5,h6,h7⟩,hl⟩:=h.box t cs (killo_some hc).1;refine ⟨⟨g,arr,ty,h4,by rw [hoth t _ g hc (by rw [h4];rfl)];exact h5,h6,fun i c u h8 h9=>(h7 i c u h8 h9).move (fun _ h=>h) hSk hkeys (lts_get hl i c h8)⟩,SV.lts_mono (Nat.le_succ _) hl⟩
  · intro t e' z' ys hy;by_cases ht:t=nk
    · subst ht;rw [upd_same] at hy;simp only [Option.some.injEq,AO.row.injEq] at hy;obtain ⟨rfl,rfl,rfl⟩:=hy;rw [upd_same];exact hR
    · rw [upd_ne _ _ ht] at hy;rw [upd_ne _ _ ht];obtain ⟨vs,h1,h2,h3,h4⟩:=(h.row t e' z' ys (killo_some hy).1).out;refine ⟨vs,⟨h1.1,?_⟩,h2,fun i x u h5 h6=>(h3 i x u h5 h6).mono (fun _ h=>h) hSk,h4⟩;rcases h1.2 with h5 | ⟨g,cap,cur,h5,h6,h7,h8⟩
      · exact .inl h5
      · exact .inr ⟨g,cap,cur,h5,h6,by rw [hoth t _ g hy (by rw [h5];rfl)];exact h7,h8⟩
  · intro t x g hx hg;rcases hlive t x g hx hg with ⟨_,h1⟩ | ⟨_,h1,h2⟩
    · obtain ⟨h3,h4⟩:=hb g h1;refine ⟨fun hS=>?_,h3⟩;rcases h4 with h4 | h4
      · have:=h.s_lt g hS;omega
      · obtain ⟨t',x',_,h5,h6⟩:=hrow g h4;exact (h.away t' x' g h5 h6).1 hS
    · have:=h.away t x g (killo_some h1).1 h2;exact ⟨this.1,Nat.lt_of_lt_of_le this.2 hsz⟩
  · intro t t' x x' g hne hx hx' hg hg';have cross:∀ t x,killo o q t=some x→blk (γ t)=some g→blk v=some g→False:=by
      intro t x hx hg hv;obtain ⟨_,h4⟩:=hb g hv;obtain ⟨h1,h2⟩:=killo_some hx;rcases h4 with h4 | h4
      · have:=(h.away t x g h1 hg).2;omega
      · obtain ⟨t',x',h5,h6,h7⟩:=hrow g h4;exact h.apart t t' x x' g (fun e=>h2 (by rw [h5,e])) h1 h6 hg h7
    rcases hlive t x g hx hg with ⟨h1,h2⟩ | ⟨h1,h2,h3⟩ <;> rcases hlive t' x' g hx' hg' with ⟨h1',h2'⟩ | ⟨h1',h2',h3'⟩
    · exact hne (h1.trans h1'.symm)
    · exact cross t' x' h2' h3' h2
    · exact cross t x h2 h3 h2'
    · exact h.apart t t' x x' g hne (killo_some h2).1 (killo_some h2').1 h3 h3'
  · intro k hk' hn;refine hk k hk' fun e=>hn ?_;obtain ⟨t,x,_,h1,h2⟩:=hrow k e.symm;exact ⟨t,x,h1,h2⟩
  · rintro g ⟨t,x,hx,hg⟩;rcases hlive t x g hx hg with ⟨_,h1⟩ | ⟨_,h1,h2⟩
    · rcases (hb g h1).2 with h4 | h4
      · exact .inl h4
      · obtain ⟨t',x',_,h5,h6⟩:=hrow g h4;exact .inr ⟨t',x',h5,h6⟩
    · exact .inr ⟨t,x,(killo_some h1).1,h2⟩
theorem cellsOf_cons (v:Value) (vs:List Value):cellsOf (v :: vs)=v.cells.toList++cellsOf vs:=rfl
theorem cellsOf_append (us vs:List Value):cellsOf (us++vs)=cellsOf us++cellsOf vs:=by simp [cellsOf]
theorem cellsOf_length {z:Nat}:∀ {vs:List Value},(∀ (i:Nat) (u:Value),vs[i]?=some u→u.cells.size=z)→(cellsOf vs).length=vs.length * z
 | [],_=>by simp [cellsOf]
 | v :: vs,h=>by
  rw [cellsOf_cons,List.length_append,cellsOf_length (vs:=vs) (fun i u hu=>h (i+1) u (by simpa using hu)),Array.length_toList,h 0 v rfl,List.length_cons,Nat.add_mul];omega
theorem cellsOf_get {z:Nat}:∀ {vs:List Value},(∀ (i:Nat) (u:Value),vs[i]?=some u→u.cells.size=z)→∀ (p:Nat) (c:Value),(cellsOf vs)[p]?=some c→∃ i j v,vs[i]?=some v∧v.cells[j]?=some c∧p=i * z+j
 | [],_,p,c,h=>by simp [cellsOf] at h
 | v :: vs,hz,p,c,h=>by
  rw [cellsOf_cons] at h;have h0:=hz 0 v rfl;by_cases hp:p < z
  ·rw [List.getElem?_append_left (by rw [Array.length_toList,h0];exact hp)] at h;exact ⟨0,p,v,rfl,by simpa using h,by omega⟩
  ·rw [List.getElem?_append_right (by rw [Array.length_toList,h0];omega),Array.length_toList,h0] at h;obtain ⟨i,j,u,h1,h2,h3⟩:=cellsOf_get (vs:=vs) (fun i u hu=>hz (i+1) u (by simpa using hu)) _ c h;exact ⟨i+1,j,u,by simpa using h1,h2,by rw [Nat.add_mul];omega⟩
theorem Rd.cells_one {w:World} {S:Nat→Prop} {x:D} {v:Value} (h:Rd w S x v):∀ (j:Nat) (u:Value),v.cells[j]?=some u→u.oneCell'=true:=by
 intro j u hu;obtain ⟨⟨l1,l2,l3⟩,_⟩:=leaves_rd h;have hlt:j < x.leaves.length:=by rw [← l1];exact (Array.getElem?_eq_some_iff.1 hu).1
 exact (l3 j _ u (List.getElem?_eq_getElem hlt) hu).leaf_one (List.all_eq_true.1 l2 _ (List.getElem_mem hlt))
structure Src (w:World) (S:Nat→Prop) (v:Value) (z:Nat) (ys:List D):Prop where
 out:∃ vs:List Value,vs.length=ys.length∧(∀ (i:Nat) (x:D) (u:Value),ys[i]?=some x→vs[i]?=some u→Rd w S x u)∧(∀ (i:Nat) (u:Value),vs[i]?=some u→u.cells.size=z)∧
  ((∃ c,v=.slice none 0 c∧vs=[])∨∃ a c,v=.slice (some a) vs.length c∧∀ (j:Nat) (u:Value),(cellsOf vs)[j]?=some u→w.cell? (a.add j)=some u)∧vs.length≤9223372036854775807
def srcOf (o:Nat→Option AO) (z:Nat):SV→Option (List D)
 | .d .nil=>some []
 | .d (.sl z' ys)=>if z'=z then some ys else none
 | .row q=>match o q with
  | some (.row _ z' ys)=>if z'=z then some ys else none
  | _=>none
 | _=>none
theorem src_of {w:World} {S:Nat→Prop} {γ:Nat→Value} {o:Nat→Option AO} {nk:Nat} (hs:Sto w S γ o nk) {c:SV} {v:Value} {z:Nat} {ys:List D} (h:SR w S γ o c v) (hc:srcOf o z c=some ys):Src w S v z ys:=by
 unfold srcOf at hc;split at hc
 ·simp only [Option.some.injEq] at hc;subst hc;cases h with
  | d _ _ hr=>cases hr with
   | nil=>exact ⟨[],rfl,by simp,by simp,.inl ⟨0,rfl,rfl⟩,by simp⟩
 ·split at hc
  ·rename_i hz;simp only [Option.some.injEq] at hc;subst hc;subst hz;cases h with
   | d _ _ hr=>cases hr with
    | emp _ A c hm=>
     cases A with
     | none=>exact ⟨[],rfl,by simp,by simp,.inl ⟨c,rfl,rfl⟩,by simp⟩
     | some a=>exact ⟨[],rfl,by simp,by simp,.inr ⟨a,c,rfl,by simp [cellsOf]⟩,by simp⟩
    | sl _ _ a c vs h1 h2 h3 h4 h5 h6 h7=>
     refine ⟨vs,h4,h5,h6,.inr ⟨a,c,by rw [h4],fun p u hp=>?_⟩,by omega⟩;obtain ⟨i,j,u',k1,k2,rfl⟩:=cellsOf_get h6 p u hp;exact h7 i j u' u k1 k2
  ·cases hc
 ·split at hc
  ·rename_i e z' ys' ho;split at hc
   ·rename_i hz;simp only [Option.some.injEq] at hc;subst hc;subst hz;cases h with
    | row _ _ hv=>
     obtain rfl:=hv _ _ _ ho;obtain ⟨vs,h1,h2,h3,h4⟩:=(hs.row _ _ _ _ ho).out;refine ⟨vs,h2,h3,h4,?_⟩;have hcl:=h1;rcases h1.2 with ⟨k1,k2⟩ | ⟨g,cap,cur,k1,k2⟩
     ·have:vs=[]:=List.eq_nil_of_length_eq_zero (by omega);exact ⟨.inl ⟨0,k1,this⟩,by rw [this];simp⟩
     ·refine ⟨.inr ⟨⟨g,0,none⟩,cap,by rw [k1,h2],fun j u hu=>?_⟩,by have h9:=k2.2.2.1;have h8:=k2.2.2.2.1;simp only [maxLen] at h8;omega⟩;rw [k1] at hcl;exact hcl.cells (g:=g) rfl j u hu
   ·cases hc
  ·cases hc
 ·cases hc
theorem run_append_nothing {P:Program} {w:World} {base:Nat} {t ty e:TypeId} {size:Nat} {x:TypeInfo} (ht:P.underlying t=some (.slice e)) (hi:P.info? e=some x) {v:Value} {n:Nat} {xs:List Value} (hown:w.ownsRow base e size v n xs) (c:Nat) :
    (Builtin.append_ #[t,t] ty #[v,.slice none 0 c]).run P w=.ok v w:=by
  rcases hown.2 with ⟨rfl,rfl⟩ | ⟨g,cap,cur,rfl,_,_,hnc,_⟩
  · simp [Builtin.append_,run_underlying ht,sizeOf,typeInfo,hi,Builtin.lenOf,Builtin.firstCells]
  · simp [Builtin.append_,run_underlying ht,sizeOf,typeInfo,hi,Builtin.lenOf,Builtin.firstCells,hnc,storeCells]
theorem cells_str (b:List UInt8):cellsOf (b.map fun c=>Value.int .u8 c.toNat)=Go.Lib.strCells ⟨b.toArray⟩:=by
 unfold Go.Lib.strCells;show cellsOf (b.map fun c=>Value.int .u8 c.toNat)=b.map _
 induction b with
 | nil=>rfl
 | cons c b ih=>rw [List.map_cons,cellsOf_cons,ih];rfl
theorem append_string_at {P:Program} {w:World} {t u ty e:TypeId} {i:TypeInfo} (ht:P.underlying t=some (.slice e)) (hu:P.underlying u=some .string) (hi:P.info? e=some i) (hs1:i.size=1)
    {v:Value} {z n:Nat} {xs:List Value} (hown:w.ownsRow 0 e z v n xs) (hz1:z=1) {s:ByteArray} {zv:Value} (hzv:i.zero=some zv) (h63:n+s.size≤9223372036854775807) (hby:i.bytes=1) (hb:n+s.size≤140737488355328) {v':Value} {w':World} (hr:(Builtin.append_ #[t,u] ty #[v,.string s]).run P w=.ok v' w') :
    v'.ownBlock=v.ownBlock∨v'.ownBlock=some w.heap.size:=by
  subst hz1;rcases hown.2 with ⟨rfl,rfl⟩ | ⟨g,cap,cur,rfl,hbg,hg,hnc,hcm,hcs,htake⟩
  · by_cases hm:s.size=0
    · have hf:=Go.Lib.run_firstCells_string (P:=P) w 1 s;rw [hm] at hf;have:(Builtin.append_ #[t,u] ty #[.slice none 0 0,.string s]).run P w=.ok (.slice none 0 0) w:=by simp [Builtin.append_,run_underlying ht,run_underlying hu,sizeOf,typeInfo,hi,hs1,Builtin.lenOf,hm,hf]
      rw [this] at hr;injection hr with e1 e2;subst e1;exact .inl rfl
    · have hr':=run_append_nil_string (P:=P) w t u ty e i zv ht hu hi hzv s (by omega) (by omega) (by rw [hby];omega);rw [hr'] at hr;injection hr with e1 e2;subst e1;exact .inr rfl
  · by_cases hroom:n+s.size≤cap
    · have hcs':cur.size=cap:=by simpa using hcs
      have hr':=Go.Lib.run_append_room_string (P:=P) w t u ty e i ht hu hi hs1 g n cap cur hg s hroom (by omega);rw [hr'] at hr;injection hr with e1 e2;subst e1;exact .inl rfl
    · have holds:∀ j u,xs[j]?=some u→w.cell? ((⟨g,0,none⟩:Addr).add j)=some u:=hown.cells (g:=g) rfl;have hr':=Go.Lib.run_append_grow_string (P:=P) w t u ty e i zv ht hu hi hzv ⟨g,0,none⟩ n cap xs (by rw [hs1];simpa using hown.1) holds s (by omega) (by omega) (by rw [hby];exact growslice_fits (by omega) (by omega));rw [hr'] at hr;injection hr with e1 e2;subst e1;exact .inr rfl
def dstOf (o:Nat→Option AO) (e:TypeId) (z:Nat):SV→Option (Option Nat×List D)
 | .d .nil=>some (none,[])
 | .row q=>match o q with
  | some (.row e' z' xs)=>if e'=e∧z'=z then some (some q,xs) else none
  | _=>none
 | _=>none
theorem dst_of {w:World} {S:Nat→Prop} {γ:Nat→Value} {o:Nat→Option AO} {nk:Nat} (hs:Sto w S γ o nk) {c:SV} {v:Value} {e:TypeId} {z:Nat} {q:Option Nat} {xs:List D} (h:SR w S γ o c v) (hc:dstOf o e z c=some (q,xs)) :
    RowAt w S v e z xs∧(∀ t,q=some t→∃ x,o t=some x∧v.ownBlock=blk (γ t))∧(q=none→v.ownBlock=none):=by
  unfold dstOf at hc;split at hc
  · simp only [Option.some.injEq,Prod.mk.injEq] at hc;obtain ⟨rfl,rfl⟩:=hc;cases h with
    | d _ _ hr=>cases hr with
      | nil=>exact ⟨⟨[],World.ownsRow_nil w 0 e z,rfl,by simp,by simp⟩,by simp,fun _=>rfl⟩
  · split at hc
    · rename_i e' z' ys' ho;split at hc
      · rename_i hz;obtain ⟨rfl,rfl⟩:=hz;simp only [Option.some.injEq,Prod.mk.injEq] at hc;obtain ⟨rfl,rfl⟩:=hc;cases h with
        | row t _ hv=>
          obtain rfl:=hv _ _ _ ho;have hR:=hs.row _ _ _ _ ho;refine ⟨hR,fun u hu=>?_,by simp⟩;simp only [Option.some.injEq] at hu;subst hu;refine ⟨_,ho,?_⟩;obtain ⟨vs,h1,_⟩:=hR.out;rcases h1.2 with ⟨k1,k2⟩ | ⟨g,cap,cur,k1,k2⟩ <;> rw [k1] <;> rfl
      · cases hc
    · cases hc
  · cases hc
def apOp (Θ:Tab) (o:Nat→Option AO) (nk:Nat) (ts:Array TypeId) (x y:SV) (K:SV→(Nat→Option AO)→Nat→Prop):Prop:=
 ∃ t u i e j l q xs ys,ts=#[t,u]∧Θ t=some i∧i.k=.slice e∧Θ e=some j∧j.z=some l∧l.length=j.sz∧0 < j.sz∧dstOf o e j.sz x=some (q,xs)∧
  (match y with
   | .d (.str b)=>(∃ v,Θ u=some v∧v.k=.str)∧j.k=.int .u8∧j.sz=1∧j.bys=1∧l=[.int .u8 0]∧ys=b.map (fun c=>.int .u8 c.toNat)
   | y=>u=t∧srcOf o j.sz y=some ys)∧
  xs.length+ys.length≤9223372036854775807∧(xs.length+ys.length) * j.bys≤140737488355328∧K (.row nk) (upd (killo o q) nk (some (.row e j.sz (xs++ys)))) (nk+1)
section
variable {P:Program} {Θ:Tab} {s:St} {a:Act} {w:World} {S:Nat→Prop} {γ:Nat→Value} {op:Oper}
theorem done_append (hΘ:TabOk P Θ) (hf:Fr s a w S γ) {ts:Array TypeId} {x y:Operand} {K:SV→(Nat→Option AO)→Nat→Prop} (ho:op.op=.call { callee:=.builtin .append,args:=#[x,y],argTypes:=ts })
    (h:apOp Θ s.o s.nk ts (ev s.sl x) (ev s.sl y) K):∃ v o' nk',Done w S γ s.o s.nk ((execOp a.eval op).run P w) v o' nk'∧K v o' nk':=by
  obtain ⟨t,u,i,e,j,l,q,xs,ys,rfl,hi,hk,hj,hz,hll,hpos,hd,hsrc,h63,hby,hK⟩:=h;obtain ⟨hR,hq1,hq2⟩:=dst_of hf.sto (hf.ev x) hd;obtain ⟨ti,zv,hti,hzv,hlv⟩:=zero_lv hΘ (w:=w) (S:=S) hj hz;have hu:=(hΘ t i hi).slice hk;have hrun:(execOp a.eval op).run P w=((Builtin.append_ #[t,u] op.type #[a.eval x,a.eval y]).run P w).andThen fun v w'=>.ok (.value v) w':=by
    unfold execOp;simp only [ho,resolve,invoke,builtin,Sem.run_bind,Sem.run_pure,Result.andThen_ok,List.map_toArray,List.map_cons,List.map_nil]
  obtain ⟨x',hx1,hx2,hx3⟩:=(hΘ e j hj).info;have hxx:x'=ti:=by rw [hx1] at hti;exact Option.some.inj hti
  subst hxx;obtain ⟨vs,hown,hvl,hvr,hvz⟩:=hR.out;have hey:=hf.ev y;generalize a.eval x=ux at *;generalize a.eval y=uy at *;generalize ev s.sl y=cy at *;have fin:∀ (v':Value) (w':World) (vs':List Value),(Builtin.append_ #[t,u] op.type #[ux,uy]).run P w=.ok v' w'→w'.ownsRow 0 e j.sz v' (xs.length+ys.length) (cellsOf (vs++vs'))→w.grownBy w' ux.ownBlock→
      (v'.ownBlock=ux.ownBlock∨v'.ownBlock=some w.heap.size)→vs'.length=ys.length→(∀ (i:Nat) (x:D) (u:Value),ys[i]?=some x→vs'[i]?=some u→Rd w S x u)→(∀ (i:Nat) (u:Value),vs'[i]?=some u→u.cells.size=j.sz)→
      ∃ v o' nk',Done w S γ s.o s.nk ((execOp a.eval op).run P w) v o' nk'∧K v o' nk':=by
    intro v' w' vs' hr ho' hg hat hl' hr' hz';have hSk:∀ k,S k→w'.heap[k]?=w.heap[k]?:=fun k hS=>hg.block k (hf.sto.s_lt k hS) fun e0=>by
      cases q with
      | none=>rw [hq2 rfl] at e0;cases e0
      | some t0=>
        obtain ⟨x0,h1,h2⟩:=hq1 t0 rfl;exact (hf.sto.away t0 x0 k h1 (by rw [← h2,e0])).1 hS
    have hblk:blk v'=v'.ownBlock:=by
      rcases ho'.2 with ⟨k1,_⟩ | ⟨g,cap,cur,k1,_⟩ <;> rw [k1] <;> rfl
    obtain ⟨m1,m2⟩:=hf.sto.put_row (w':=w') q (v:=v') (e:=e) (z:=j.sz) (xs:=xs++ys) ux.ownBlock hq1 hq2 hg.os hg.tape hg.output hg.size hg.block
      ⟨vs++vs',by rw [List.length_append];exact ho',by simp [hvl,hl'],fun i x u h1 h2=>by
        by_cases hlt:i < xs.length
        · rw [List.getElem?_append_left hlt] at h1;rw [List.getElem?_append_left (by omega)] at h2;exact (hvr i x u h1 h2).mono (fun _ h=>h) hSk
        · rw [List.getElem?_append_right (by omega)] at h1;rw [List.getElem?_append_right (by omega),hvl] at h2;exact (hr' _ x u h1 h2).mono (fun _ h=>h) hSk,fun i u h2=>by
        by_cases hlt:i < vs.length
        · rw [List.getElem?_append_left hlt] at h2;exact hvz i u h2
        · rw [List.getElem?_append_right (by omega)] at h2;exact hz' _ u h2⟩ (fun g hg'=>by
        rw [hblk] at hg';have hlt:=(ho'.lt g hg').2;refine ⟨hlt,?_⟩;rcases hat with h1 | h1
        · right;rw [← h1,hg']
        · left;rw [hg'] at h1;injection h1 with h1;omega)
    refine ⟨_,_,_,⟨v',w',S,_,.inl ?_,m1,m2,.row _ _ fun e' z' xs' hx'=>(upd_same _ _ _).symm,Nat.lt_succ_self _⟩,hK⟩;rw [hrun,hr];rfl
  have hzs:zv.cells.size=j.sz:=by rw [hlv.1];exact hll
  by_cases hstr:∃ b,cy=.d (.str b)
  · obtain ⟨b,rfl⟩:=hstr;obtain ⟨⟨v0,hv0,hv1⟩,hjk,hj1,hb1,hl1,rfl⟩:=hsrc;cases hey with
    | d _ _ hr=>cases hr with
      | str=>
        have hzv':x'.zero=some (.int .u8 0):=by
          obtain ⟨z1,_,_⟩:=(hΘ e j hj).z l hz;rw [hl1,hjk] at z1;simpa [hx1,zvOf,D.zv,TK.agg] using z1
        obtain ⟨v',w',hr,ho',hg,_⟩:=Go.Lib.run_append_own_string (P:=P) w 0 t u op.type e x' hu ((hΘ u v0 hv0).str hv1) hx1 hzv' (hx2.trans hj1) (hx3.trans hb1) ux xs.length (cellsOf vs) (by rw [← hj1];exact hown) ⟨b.toArray⟩
          (by simp only [maxLen,ByteArray.size,List.size_toArray];simp at h63;omega) (by simp only [ByteArray.size,List.size_toArray];simp [hb1] at hby;omega) (Nat.zero_le _)
        have hcs:cellsOf (b.map fun c=>Value.int .u8 c.toNat)=Go.Lib.strCells ⟨b.toArray⟩:=cells_str b;refine fin v' w' (b.map fun c=>.int .u8 c.toNat) hr ?_ hg (append_string_at hu ((hΘ u v0 hv0).str hv1) hx1 (hx2.trans hj1) hown hj1 hzv (by simp only [ByteArray.size,List.size_toArray];simp at h63;omega) (hx3.trans hb1) (by simp only [ByteArray.size,List.size_toArray];simp [hb1] at hby;omega) hr) (by simp) (fun i x u h1 h2=>?_) (fun i u h2=>?_)
        · rw [cellsOf_append,hcs,hj1,List.length_map];simpa [ByteArray.size] using ho'
        · rw [List.getElem?_map] at h1 h2;obtain ⟨c,hc,rfl⟩:=Option.map_eq_some_iff.1 h1;rw [hc] at h2;simp only [Option.map_some,Option.some.injEq] at h2;subst h2;exact .int _ _
        · rw [List.getElem?_map] at h2;obtain ⟨c,hc,rfl⟩:=Option.map_eq_some_iff.1 h2;rw [hj1];rfl
  · have hsrc':u=t∧srcOf s.o j.sz cy=some ys:=by
      revert hsrc;split
      · rename_i b;exact absurd ⟨b,rfl⟩ hstr
      · exact id
    obtain ⟨hut,hsrc2⟩:=hsrc';subst hut;obtain ⟨vs',h1,h2,h3,h4,_⟩:=(src_of hf.sto hey hsrc2).out;rcases h4 with ⟨c,rfl,rfl⟩ | ⟨ad,c,rfl,h4⟩
    · have hys:ys=[]:=List.eq_nil_of_length_eq_zero (by simpa using h1.symm);subst hys;refine fin ux w [] (run_append_nothing (P:=P) hu hx1 hown c) (by simpa using hown) ⟨rfl,rfl,rfl,Nat.le_refl _,fun _ _ _=>rfl⟩ (.inl rfl) rfl (by simp) (by simp)
    · obtain ⟨v',w',hr,ho',hg,_,hat⟩:=run_append_own_at (P:=P) w 0 u op.type e x' zv j.sz j.bys hu hx1 hzv hx2 hx3 hzs hpos ux xs.length (cellsOf vs) hown ad vs'.length c (cellsOf vs')
        (cellsOf_length h3) h4 (fun v hv=>by
          obtain ⟨p,hp⟩:=List.getElem?_of_mem hv;obtain ⟨i,jj,q',k1,k2,_⟩:=cellsOf_get h3 p v hp;have hlt:i < ys.length:=by rw [← h1];exact (List.getElem?_eq_some_iff.1 k1).1
          exact (h2 i _ q' (List.getElem?_eq_getElem hlt) k1).cells_one jj v k2)
        (by simp only [maxLen];omega) (by rw [h1];exact hby) (Nat.zero_le _)
      refine fin v' w' vs' hr ?_ hg hat h1 h2 h3;rw [cellsOf_append,← h1];exact ho'
end
theorem Sto.more {w w':World} {S:Nat→Prop} {γ:Nat→Value} {o:Nat→Option AO} {nk:Nat} (h:Sto w S γ o nk) (b:Nat→Prop) (hb:∀ k,b k→w.heap.size≤k∧k < w'.heap.size)
    (hos:w'.os=w.os) (htp:w'.tape=w.tape) (hou:w'.output=w.output) (hsz:w.heap.size≤w'.heap.size) (hk:∀ k,k < w.heap.size→w'.heap[k]?=w.heap[k]?) :
    Sto w' (fun k=>S k∨b k) γ o nk∧Tr w S γ o nk w' (fun k=>S k∨b k) γ o nk:=by
  have hkeys:∀ t x,t < nk→o t=some x→∃ y,o t=some y∧AO.kin y x∧γ t=γ t:=fun t x _ hx=>⟨x,hx,AO.kin_refl x,rfl⟩;have hS:∀ k,S k→S k∨b k:=fun _ h=>.inl h;have hSk:∀ k,S k→w'.heap[k]?=w.heap[k]?:=fun k hS=>hk k (h.s_lt k hS);have hlv:∀ t x g,o t=some x→blk (γ t)=some g→w'.heap[g]?=w.heap[g]?:=fun t x g hx hg=>hk g (h.away t x g hx hg).2;refine ⟨⟨?_,h.o_lt,?_,?_,fun t ob hx=>(h.raw t ob hx).kept hS hSk fun g hg=>hlv t _ g hx hg,?_,h.apart⟩,⟨hos,htp,hou,hsz,Nat.le_refl _,fun k hk' _=>hk k hk',hS,?_,fun g hg=>.inr hg,hkeys⟩⟩
  · rintro k (h1 | h1)
    · exact Nat.lt_of_lt_of_le (h.s_lt k h1) hsz
    · exact (hb k h1).2
  · intro t cs hc;obtain ⟨⟨g,arr,ty,h4,h5,h6,h7⟩,hl⟩:=h.box t cs hc;exact ⟨⟨g,arr,ty,h4,by rw [hlv t _ g hc (by rw [h4];rfl)];exact h5,h6,fun i c u h8 h9=>(h7 i c u h8 h9).move (nk:=nk) hS hSk hkeys (lts_get hl i c h8)⟩,hl⟩
  · intro t e z xs hx;obtain ⟨vs,h1,h2,h3,h4⟩:=(h.row t e z xs hx).out;refine ⟨vs,⟨h1.1,?_⟩,h2,fun i x u h5 h6=>(h3 i x u h5 h6).mono hS hSk,h4⟩;rcases h1.2 with h5 | ⟨g,cap,cur,h5,h6,h7,h8⟩
    · exact .inl h5
    · exact .inr ⟨g,cap,cur,h5,h6,by rw [hlv t _ g hx (by rw [h5];rfl)];exact h7,h8⟩
  · intro t x g hx hg;obtain ⟨h1,h2⟩:=h.away t x g hx hg;refine ⟨?_,Nat.lt_of_lt_of_le h2 hsz⟩;rintro (h3 | h3)
    · exact h1 h3
    · have:=(hb g h3).1;omega
  · rintro k (h1 | h1)
    · exact .inl h1
    · exact .inr (.inl (hb k h1).1)
def lenD (o:Nat→Option AO):SV→Option Nat
 | .d .nil=>some 0
 | .d (.sl _ xs)=>some xs.length
 | .d (.str s)=>some s.length
 | .row q=>match o q with
  | some (.row _ _ xs)=>some xs.length
  | _=>none
 | _=>none
def leOp (Θ:Tab) (o:Nat→Option AO) (ts:Array TypeId) (x:SV) (K:SV→Prop):Prop:=
 ∃ t i,ts=#[t]∧Θ t=some i∧(match x with
  | .d (.str _)=>i.k=.str
  | _=>∃ e,i.k=.slice e)∧∃ n,lenD o x=some n∧K (.d (.int .i64 n))
section
variable {P:Program} {Θ:Tab} {s:St} {a:Act} {w:World} {S:Nat→Prop} {γ:Nat→Value} {op:Oper}
theorem done_len (hΘ:TabOk P Θ) (hf:Fr s a w S γ) {ts:Array TypeId} {x:Operand} {K:SV→Prop} (ho:op.op=.call { callee:=.builtin .len,args:=#[x],argTypes:=ts })
    (h:leOp Θ s.o ts (ev s.sl x) K):∃ v,Done w S γ s.o s.nk ((execOp a.eval op).run P w) v s.o s.nk∧K v:=by
  obtain ⟨t,i,rfl,hi,hk,n,hn,hK⟩:=h;have hx:=hf.ev x;refine ⟨_,Done.now hf.sto (u:=.int .i64 n) ?_ (.d _ _ (.int _ _)) trivial,hK⟩;have hrun:(execOp a.eval op).run P w=((Builtin.len_ #[t] op.type #[a.eval x]).run P w).andThen fun v w'=>.ok (.value v) w':=by
    unfold execOp;simp only [ho,resolve,invoke,builtin,Sem.run_bind,Sem.run_pure,Result.andThen_ok,List.map_toArray,List.map_cons,List.map_nil]
  have key:((∃ A c,a.eval x=.slice A n c)∧(∃ e,i.k=.slice e))∨(∃ b:ByteArray,a.eval x=.string b∧b.size=n∧i.k=.str):=by
    generalize Abs.ev s.sl x=c at hn hx hk;generalize a.eval x=ux at hx;unfold lenD at hn;split at hn
    · simp only [Option.some.injEq] at hn;subst hn;cases hx with
      | d _ _ hr=>cases hr with
        | nil=>exact .inl ⟨⟨_,_,rfl⟩,hk⟩
    · simp only [Option.some.injEq] at hn;subst hn;cases hx with
      | d _ _ hr=>cases hr with
        | emp z A c hm=>exact .inl ⟨⟨_,_,rfl⟩,hk⟩
        | sl z xs ad c vs h1 h2 h3 h4 h5 h6 h7=>exact .inl ⟨⟨_,_,rfl⟩,hk⟩
    · simp only [Option.some.injEq] at hn;subst hn;cases hx with
      | d _ _ hr=>cases hr with
        | str=>exact .inr ⟨_,rfl,by simp [ByteArray.size],hk⟩
    · split at hn
      · rename_i e z xs ho';simp only [Option.some.injEq] at hn;subst hn;cases hx with
        | row _ _ hv=>
          obtain rfl:=hv _ _ _ ho';obtain ⟨vs,h1,h2,_⟩:=(hf.sto.row _ _ _ _ ho').out;rcases h1.2 with ⟨k1,k2⟩ | ⟨g,cap,cur,k1,k2⟩
          · exact .inl ⟨⟨none,0,by rw [k1,k2]⟩,hk⟩
          · exact .inl ⟨⟨_,_,k1⟩,hk⟩
      · cases hn
    · cases hn
  rw [hrun];rcases key with ⟨⟨A,c,hv⟩,e,hk'⟩ | ⟨b,hv,hsz,hk'⟩
  · rw [hv];simp [Builtin.len_,run_underlying ((hΘ t i hi).slice hk'),goInt]
  · rw [hv];simp [Builtin.len_,run_underlying ((hΘ t i hi).str hk'),goInt,hsz]
end
theorem alloc_old (w:World) (x:Obj) (k:Nat) (hk:k < w.heap.size):(w.alloc x).heap[k]?=w.heap[k]?:=by
 show (w.heap.push _)[k]?=_;rw [Array.getElem?_push,if_neg (by omega)]
def partsL (z:Nat):Nat→List (Nat×SV)→Option (List D)
 | _,[]=>some []
 | k,(i,.d x) :: r=>if i=k∧x.width=z then (partsL z (k+1) r).map (x :: ·) else none
 | _,_ :: _=>none
def bsOp (Θ:Tab) (o:Nat→Option AO) (nk:Nat) (t:TypeId) (n:Nat) (parts:List (Nat×SV)) (K:SV→(Nat→Option AO)→Nat→Prop):Prop:=
 ∃ i e j l xs,Θ t=some i∧i.k=.slice e∧Θ e=some j∧j.z=some l∧l.length=j.sz∧0 < j.sz∧partsL j.sz 0 parts=some xs∧xs.length=n∧n * j.sz≤16777216∧
  (if n=0 then K (.row nk) (upd o nk (some (.row e j.sz xs))) (nk+1) else (K (.d (.sl j.sz xs)) o nk∨K (.dx j.sz xs) o nk∨K (.row nk) (upd o nk (some (.row e j.sz xs))) (nk+1)))
theorem setM_append:∀ (us vs:List Value) (arr:Array Value) (o:Nat),setM arr o (us++vs)=setM (setM arr o us) (o+us.length) vs
 | [],_,_,_=>rfl
 | u :: us,vs,arr,o=>by
  simp only [List.cons_append,setM,List.length_cons];rw [setM_append us vs];congr 1;omega
theorem fill_seq {z:Nat}:∀ (vs:List Value) (k:Nat) (arr:Array Value),(∀ (i:Nat) (u:Value),vs[i]?=some u→u.cells.size=z)→(k+vs.length) * z≤arr.size→
    Instr.fill (fun i=>some (i * z,z)) arr ((vs.zipIdx k).map fun p=>(p.2,p.1))=some (setM arr (k * z) (cellsOf vs))
  | [],k,arr,_,_=>rfl
  | v :: vs,k,arr,hz,hle=>by
    have h0:=hz 0 v rfl;have hmul:(k+(vs.length+1)) * z=k * z+z+vs.length * z:=by rw [Nat.add_mul,Nat.add_mul];omega
    simp only [List.length_cons,hmul] at hle;simp only [List.zipIdx_cons,List.map_cons,Instr.fill];have hn:¬ ((decide (v.cells.size≠z) || decide (k * z+v.cells.size > arr.size))=true):=by
      simp [h0];omega
    rw [if_neg hn];have hf:=fold_setM v.cells.toList arr (k * z) 0;simp only [Nat.add_zero] at hf;rw [← Array.foldl_toList,Array.toList_zipIdx,hf,fill_seq vs (k+1) _ (fun i u hu=>hz (i+1) u (by simpa using hu)) (by rw [setM_size,Nat.add_mul,Nat.add_mul];omega)];rw [cellsOf_cons,setM_append,Array.length_toList,h0,Nat.add_mul,Nat.one_mul]
theorem setM_all (arr:Array Value) (vs:List Value) (h:vs.length=arr.size):setM arr 0 vs=vs.toArray:=by
 apply Array.ext_getElem?;intro i;rw [setM_get vs arr 0 i (by omega)];by_cases hi:i < vs.length
 ·simp [hi]
 ·simp [hi];omega
section
variable {P:Program} {Θ:Tab} {s:St} {a:Act} {w:World} {S:Nat→Prop} {γ:Nat→Value} {op:Oper}
theorem partsL_rd {z:Nat}:∀ (ps:List (Nat×SV)) (qs:List (Nat×Value)) (k:Nat) (xs:List D),partsL z k ps=some xs→ps.length=qs.length→
    (∀ (j:Nat) (p:Nat×SV) (q:Nat×Value),ps[j]?=some p→qs[j]?=some q→p.1=q.1∧∀ x,p.2=.d x→Rd w S x q.2)→
    ∃ vs:List Value,qs=(vs.zipIdx k).map (fun p=>(p.2,p.1))∧vs.length=xs.length∧(∀ (i:Nat) (x:D) (u:Value),xs[i]?=some x→vs[i]?=some u→Rd w S x u)∧(∀ (i:Nat) (u:Value),vs[i]?=some u→u.cells.size=z)
  | [],[],k,xs,h,_,_=>by
    simp only [partsL,Option.some.injEq] at h;subst h;exact ⟨[],rfl,rfl,by simp,by simp⟩
  | (i,c) :: ps,(j,v) :: qs,k,xs,h,hl,hr=>by
    cases c with
    | d x=>
      simp only [partsL] at h;split at h
      · rename_i hc;obtain ⟨rfl,hw⟩:=hc;obtain ⟨ys,hy,rfl⟩:=Option.map_eq_some_iff.1 h;obtain ⟨h1,h2⟩:=hr 0 _ _ rfl rfl;have hx:=h2 x rfl;obtain ⟨vs,k1,k2,k3,k4⟩:=partsL_rd ps qs (i+1) ys hy (by simpa using hl) (fun m p q h3 h4=>hr (m+1) p q (by simpa using h3) (by simpa using h4));simp only at h1;subst h1;refine ⟨v :: vs,by rw [k1];rfl,by simp [k2],fun m d u h5 h6=>?_,fun m u h6=>?_⟩
        · cases m with
          | zero=>simp at h5 h6;subst h5;subst h6;exact hx
          | succ m=>exact k3 m d u (by simpa using h5) (by simpa using h6)
        · cases m with
          | zero=>simp at h6;subst h6;exact hx.width.trans hw
          | succ m=>exact k4 m u (by simpa using h6)
      · cases h
    | _=>simp [partsL] at h
theorem done_buildSlice (hΘ:TabOk P Θ) (hf:Fr s a w S γ) {t:TypeId} {n:Nat} {parts:Array (Nat×Operand)} {K:SV→(Nat→Option AO)→Nat→Prop} (ho:op.op=.buildSlice t n parts)
    (h:bsOp Θ s.o s.nk t n (parts.toList.map fun p=>(p.1,ev s.sl p.2)) K):∃ v o' nk',Done w S γ s.o s.nk ((execOp a.eval op).run P w) v o' nk'∧K v o' nk':=by
  obtain ⟨i,e,j,l,xs,hi,hk,hj,hz,hll,hpos,hp,hn,hsm,hK⟩:=h;have hu:=(hΘ t i hi).slice hk;obtain ⟨ti,zv,hti,hzv,hlv⟩:=zero_lv hΘ (w:=w) (S:=S) hj hz;obtain ⟨x',hx1,hx2,hx3⟩:=(hΘ e j hj).info;have hxx:x'=ti:=by rw [hx1] at hti;exact Option.some.inj hti
  subst hxx;obtain ⟨vs,h1,h2,h3,h4⟩:=partsL_rd (w:=w) (S:=S) _ (parts.map fun p=>(p.1,a.eval p.2)).toList 0 xs hp (by simp) (parts_rd hf parts);have hrun:(execOp a.eval op).run P w=((Instr.buildSlice t n (parts.map fun p=>(p.1,a.eval p.2))).run P w).andThen fun u w'=>.ok (.value u) w':=by simp [execOp,ho]
  have hcl:(cellsOf vs).length=n * j.sz:=by rw [cellsOf_length h4,h2,hn]
  have hown:(w.alloc (.cells (cellsOf vs).toArray e)).ownsRow 0 e j.sz (.slice (some ⟨w.heap.size,0,none⟩) n n) n (cellsOf vs):=by
    refine ⟨hcl,.inr ⟨w.heap.size,n,_,rfl,Nat.zero_le _,heap_alloc_new w _,Nat.le_refl _,?_,by simpa using hcl,?_⟩⟩
    · simp only [maxLen];have:n≤n * j.sz:=Nat.le_mul_of_pos_right n hpos;omega
    · show (cellsOf vs).take (n * j.sz)=_;rw [← hcl];exact List.take_length
  have hbs:(Instr.buildSlice t n (parts.map fun p=>(p.1,a.eval p.2))).run P w=.ok (.slice (some ⟨w.heap.size,0,none⟩) n n) (w.alloc (.cells (cellsOf vs).toArray e)):=by
    by_cases h0:n=0
    · subst h0;have hvs:vs=[]:=List.eq_nil_of_length_eq_zero (by omega);subst hvs;have hq:(parts.map fun p=>(p.1,a.eval p.2)).toList=[]:=by rw [h1];rfl
      have hq0:parts=#[]:=by
        rw [Array.toList_map,List.map_eq_nil_iff] at hq;apply Array.ext';simpa using hq
      rw [hq0];simp [Instr.buildSlice,run_underlying hu,sizeOf,typeInfo,hx1,hq,Instr.fill,newRow,cellsOf];congr 2;apply Array.ext <;> simp
    · have hnz:¬ n * x'.size=0:=by
        rw [hx2];intro e;rcases Nat.mul_eq_zero.1 e with e | e <;> omega
      refine run_buildSlice w t e n _ (cellsOf vs).toArray x' zv hu hx1 hzv (by rw [hx2];omega) hnz ?_;rw [h1,hx2,fill_seq vs 0 _ h4 (by simp [h2,hn]),Nat.zero_mul];congr 1;exact setM_all _ _ (by simp [hcl])
  have hrow:∃ S' γ',Sto (w.alloc (.cells (cellsOf vs).toArray e)) S' γ' (upd s.o s.nk (some (.row e j.sz xs))) (s.nk+1)∧Tr w S γ s.o s.nk (w.alloc (.cells (cellsOf vs).toArray e)) S' γ' (upd s.o s.nk (some (.row e j.sz xs))) (s.nk+1)∧SR (w.alloc (.cells (cellsOf vs).toArray e)) S' γ' (upd s.o s.nk (some (.row e j.sz xs))) (.row s.nk) (.slice (some ⟨w.heap.size,0,none⟩) n n):=by
    obtain ⟨m1,m2⟩:=hf.sto.put_row (w':=w.alloc (.cells (cellsOf vs).toArray e)) none (v:=.slice (some ⟨w.heap.size,0,none⟩) n n) (e:=e) (z:=j.sz) (xs:=xs) none (by simp) (fun _=>rfl) rfl rfl rfl (by simp) (fun k hk _=>alloc_old w _ k hk)
      ⟨vs,by rw [hn];exact hown,h2,fun i x u h5 h6=>(h3 i x u h5 h6).mono (fun _ h=>h) (fun k hk=>alloc_old w _ k (hf.sto.s_lt k hk)),h4⟩ (fun g hg=>by
        simp [blk] at hg;subst hg;simp)
    exact ⟨S,_,m1,m2,.row _ _ fun e' z' xs' hx'=>(upd_same _ _ _).symm⟩
  by_cases h0:n=0
  · rw [if_pos h0] at hK;obtain ⟨S',γ',m1,m2,m3⟩:=hrow;refine ⟨_,_,_,⟨_,_,S',γ',.inl ?_,m1,m2,m3,Nat.lt_succ_self _⟩,hK⟩;rw [hrun,hbs];rfl
  · rw [if_neg h0] at hK;obtain ⟨m1,m2⟩:=hf.sto.more (w':=w.alloc (.cells (cellsOf vs).toArray e)) (fun k=>some w.heap.size=some k) (fun k hk=>by injection hk with hk;subst hk;simp) rfl rfl rfl (by simp) (fun k hk=>alloc_old w _ k hk);have hrd:Rd (w.alloc (.cells (cellsOf vs).toArray e)) (fun k=>S k∨blk (.slice (some ⟨w.heap.size,0,none⟩) n n)=some k) (.sl j.sz xs) (.slice (some ⟨w.heap.size,0,none⟩) n n):=
      RowAt.rd (e:=e) ⟨vs,by rw [hn];exact hown,h2,fun i x u h5 h6=>(h3 i x u h5 h6).mono (fun _ h=>h) (fun k hk=>alloc_old w _ k (hf.sto.s_lt k hk)),h4⟩
    rcases hK with hK | hK | hK
    · refine ⟨_,_,_,⟨_,_,_,_,.inl ?_,m1,m2,.d _ _ hrd,trivial⟩,hK⟩;rw [hrun,hbs];rfl
    · refine ⟨_,_,_,⟨_,_,_,_,.inl ?_,m1,m2,.dx _ _ _ hrd fun A m c h=>by simp only [Value.slice.injEq] at h;omega,trivial⟩,hK⟩;rw [hrun,hbs];rfl
    · obtain ⟨S',γ',m1,m2,m3⟩:=hrow;refine ⟨_,_,_,⟨_,_,S',γ',.inl ?_,m1,m2,m3,Nat.lt_succ_self _⟩,hK⟩;rw [hrun,hbs];rfl
end
def bnd (y:Nat):SV→Option Nat
 | .d (.int _ i)=>if 0≤i∧i≤y then some i.toNat else none
 | _=>none
def bndO (y d:Nat):Option SV→Option Nat
 | none=>some d
 | some x=>bnd y x
def slOp (Θ:Tab) (o:Nat→Option AO) (nk:Nat) (t:TypeId) (x:SV) (lo hi mx:Option SV) (K:SV→(Nat→Option AO)→Nat→Prop):Prop:=
 match x with
 | .d (.str b)=>(∃ i,Θ t=some i∧i.k=.str)∧mx=none∧∃ h l,bndO b.length b.length hi=some h∧bndO h 0 lo=some l∧K (.d (.str ((b.take h).drop l))) o nk
 | .d .nil=>(∃ i e j,Θ t=some i∧i.k=.slice e∧Θ e=some j)∧(mx=none∨hi≠none)∧bndO 0 0 mx=some 0∧bndO 0 0 hi=some 0∧bndO 0 0 lo=some 0∧K (.d .nil) o nk
 | .d (.sl z xs)=>(∃ i e j,Θ t=some i∧i.k=.slice e∧Θ e=some j∧j.sz=z)∧(mx=none∨hi≠none)∧
  ∃ m h l,bndO xs.length xs.length mx=some m∧bndO m m hi=some h∧bndO h 0 lo=some l∧K (.d (.sl z ((xs.take h).drop l))) o nk
 | .row q=>∃ i e j xs h,Θ t=some i∧i.k=.slice e∧Θ e=some j∧o q=some (.row e j.sz xs)∧mx=none∧bndO xs.length xs.length hi=some h∧bndO h 0 lo=some 0∧
  K (.row nk) (upd (upd o q none) nk (some (.row e j.sz (xs.take h)))) (nk+1)
 | _=>False
def BV (w:World) (S:Nat→Prop) (γ:Nat→Value) (o:Nat→Option AO) (x:Option SV) (v:Option Value):Prop:=
 match x,v with
 | none,none=>True
 | some c,some u=>SR w S γ o c u
 | _,_=>False
theorem run_bnd {P:Program} {w:World} {S:Nat→Prop} {γ:Nat→Value} {o:Nat→Option AO} {x:SV} {v:Value} {y y' n:Nat} {code:BoundsCode} (h:SR w S γ o x v) (hb:bnd y x=some n) (hy:y≤y'):(Instr.sliceBound v y' code).run P w=.ok n w∧n≤y:=by
 unfold bnd at hb;split at hb
 ·split at hb
  ·rename_i h0;simp only [Option.some.injEq] at hb;subst hb;cases h with
   | d _ _ hr=>cases hr with
    | int=>
     rename_i k i;have h1:0≤i∧i≤(y':Int):=⟨h0.1,Int.le_trans h0.2 (Int.ofNat_le.2 hy)⟩;refine ⟨by simp [Instr.sliceBound,asIntOf,h1],by omega⟩
  ·cases hb
 ·cases hb
section
variable {P:Program} {Θ:Tab} {s:St} {a:Act} {w:World} {S:Nat→Prop} {γ:Nat→Value} {op:Oper}
theorem run_bounds {isS:Bool} {len cap m h l:Nat} {lo hi mx:Option SV} {vl vh vm:Option Value} (h1:BV w S γ s.o lo vl) (h2:BV w S γ s.o hi vh) (h3:BV w S γ s.o mx vm) (hlc:len≤cap)
    (hmx:mx=none∨hi≠none) (e1:bndO len len mx=some m) (e2:bndO m m hi=some h) (e3:bndO h 0 lo=some l) :
    ∃ m',(Instr.sliceBounds isS len cap vl vh vm).run P w=.ok (l,h,m') w∧h≤m'∧m'≤cap∧l≤h∧h≤len:=by
  cases mx with
  | none=>
    cases vm with
    | some v=>exact h3.elim
    | none=>
      simp only [bndO,Option.some.injEq] at e1;subst e1;cases hi with
      | none=>
        cases vh with
        | some v=>exact h2.elim
        | none=>
          simp only [bndO,Option.some.injEq] at e2;subst e2;cases lo with
          | none=>
            cases vl with
            | some v=>exact h1.elim
            | none=>
              simp only [bndO,Option.some.injEq] at e3;subst e3;exact ⟨cap,by simp [Instr.sliceBounds],hlc,Nat.le_refl _,Nat.zero_le _,Nat.le_refl _⟩
          | some c=>
            cases vl with
            | none=>exact h1.elim
            | some v=>
              simp only [bndO] at e3;have hr:=fun code=>run_bnd (P:=P) (code:=code) h1 e3 (Nat.le_refl _);exact ⟨cap,by simp [Instr.sliceBounds,(hr _).1],hlc,Nat.le_refl _,(hr .sliceB).2,Nat.le_refl _⟩
      | some d=>
        cases vh with
        | none=>exact h2.elim
        | some u=>
          simp only [bndO] at e2;have hr2:=fun code=>run_bnd (P:=P) (code:=code) h2 e2 hlc;have hle:=(hr2 .sliceB).2;cases lo with
          | none=>
            cases vl with
            | some v=>exact h1.elim
            | none=>
              simp only [bndO,Option.some.injEq] at e3;subst e3;exact ⟨cap,by simp [Instr.sliceBounds,(hr2 _).1],by omega,Nat.le_refl _,Nat.zero_le _,hle⟩
          | some c=>
            cases vl with
            | none=>exact h1.elim
            | some v=>
              simp only [bndO] at e3;have hr:=fun code=>run_bnd (P:=P) (code:=code) h1 e3 (Nat.le_refl _);exact ⟨cap,by simp [Instr.sliceBounds,(hr _).1,(hr2 _).1],by omega,Nat.le_refl _,(hr .sliceB).2,hle⟩
  | some b=>
    cases vm with
    | none=>exact h3.elim
    | some vb=>
      simp only [bndO] at e1;have hr3:=fun code=>run_bnd (P:=P) (code:=code) h3 e1 hlc;have hml:=(hr3 .sliceB).2;cases hi with
      | none=>simp at hmx
      | some d=>
        cases vh with
        | none=>exact h2.elim
        | some u=>
          simp only [bndO] at e2;have hr2:=fun code=>run_bnd (P:=P) (code:=code) h2 e2 (Nat.le_refl _);have hle:=(hr2 .sliceB).2;cases lo with
          | none=>
            cases vl with
            | some v=>exact h1.elim
            | none=>
              simp only [bndO,Option.some.injEq] at e3;subst e3;exact ⟨m,by simp [Instr.sliceBounds,(hr2 _).1,(hr3 _).1],hle,by omega,Nat.zero_le _,by omega⟩
          | some c=>
            cases vl with
            | none=>exact h1.elim
            | some v=>
              simp only [bndO] at e3;have hr:=fun code=>run_bnd (P:=P) (code:=code) h1 e3 (Nat.le_refl _);exact ⟨m,by simp [Instr.sliceBounds,(hr _).1,(hr2 _).1,(hr3 _).1],hle,by omega,(hr .sliceB).2,by omega⟩
theorem bv_of (hf:Fr s a w S γ) (x:Option Operand):BV w S γ s.o (x.map (ev s.sl)) (x.map a.eval):=by
 cases x with
 | none=>trivial
 | some x=>exact hf.ev x
theorem rd_cut {z:Nat} {xs:List D} {v:Value} (hr:Rd w S (.sl z xs) v) {m h l:Nat}:∃ A n c,v=.slice A n c∧n=xs.length∧xs.length≤c∧
    (l≤h→h≤m→m≤c→h≤xs.length→Rd w S (.sl z ((xs.take h).drop l)) (.slice (if m=l then A else A.map (·.add (l * z))) (h - l) (m - l))):=by
  cases hr with
  | emp z A c hm=>
    refine ⟨A,0,c,rfl,rfl,Nat.zero_le _,fun h1 h2 h3 h4=>?_⟩;simp only [List.length_nil,Nat.le_zero_eq] at h4;subst h4;have:l=0:=by omega
    subst this;exact .emp z _ _ (by omega)
  | sl z xs ad c vs hl hm hS hv hr hz hc=>
    refine ⟨some ad,_,c,rfl,rfl,hl,fun h1 h2 h3 h4=>?_⟩;by_cases he:l=h
    · subst he;have:(xs.take l).drop l=[]:=by simp
      rw [this,Nat.sub_self];exact .emp z _ _ (by omega)
    · rw [if_neg (by omega)];have hlen:((xs.take h).drop l).length=h - l:=by simp;omega
      have hg:∀ {α:Type} (ys:List α) (i:Nat),i < h - l→((ys.take h).drop l)[i]?=ys[l+i]?:=fun ys i hi=>by
        rw [List.getElem?_drop,List.getElem?_take,if_pos (by omega)]
      have hlt:∀ {α:Type} (ys:List α) (i:Nat) (y:α),((ys.take h).drop l)[i]?=some y→i < h - l:=fun ys i y hy=>by
        have:=(List.getElem?_eq_some_iff.1 hy).1;simp at this;omega
      rw [← hlen];refine .sl z _ _ (m - l) ((vs.take h).drop l) (by omega) (by omega) (by rw [add_block];exact hS) (by simp;omega) (fun i x u h5 h6=>?_) (fun i u h6=>?_) (fun i j u q h6 h7=>?_)
      · rw [hg _ _ (hlt _ _ _ h5)] at h5;rw [hg _ _ (hlt _ _ _ h6)] at h6;exact hr _ _ _ h5 h6
      · rw [hg _ _ (hlt _ _ _ h6)] at h6;exact hz _ _ h6
      · rw [hg _ _ (hlt _ _ _ h6)] at h6;have:=hc _ _ _ _ h6 h7;rw [Addr_add_add,← Nat.add_assoc,← Nat.add_mul];exact this
theorem done_slice (hΘ:TabOk P Θ) (hf:Fr s a w S γ) {t:TypeId} {x:Operand} {lo hi mx:Option Operand} {K:SV→(Nat→Option AO)→Nat→Prop} (ho:op.op=.slice t x lo hi mx)
    (h:slOp Θ s.o s.nk t (ev s.sl x) (lo.map (ev s.sl)) (hi.map (ev s.sl)) (mx.map (ev s.sl)) K):∃ v o' nk',Done w S γ s.o s.nk ((execOp a.eval op).run P w) v o' nk'∧K v o' nk':=by
  have hrun:(execOp a.eval op).run P w=((Instr.sliceAt t (a.eval x) (lo.map a.eval) (hi.map a.eval) (mx.map a.eval)).run P w).andThen fun u w'=>.ok (.value u) w':=by simp [execOp,ho]
  have b1:=bv_of hf lo;have b2:=bv_of hf hi;have b3:=bv_of hf mx;have hx:=hf.ev x;generalize lo.map (Abs.ev s.sl)=cl at h b1;generalize hi.map (Abs.ev s.sl)=ch at h b2;generalize mx.map (Abs.ev s.sl)=cm at h b3;generalize lo.map a.eval=vl at hrun b1;generalize hi.map a.eval=vh at hrun b2;generalize mx.map a.eval=vm at hrun b3;generalize Abs.ev s.sl x=c at h hx;generalize a.eval x=ux at hx hrun;unfold slOp at h;split at h
  · obtain ⟨⟨i,hi,hk⟩,rfl,hh,l,e2,e3,hK⟩:=h;rename_i b;have hvm:vm=none:=by cases vm <;> first | rfl | exact b3.elim
    subst hvm;cases hx with
    | d _ _ hr=>cases hr with
      | str _ hm0=>
        obtain ⟨m',hr',h1,h2,h3,h4⟩:=run_bounds (P:=P) (isS:=false) (cap:=b.length) b1 b2 b3 (Nat.le_refl _) (.inl rfl) rfl e2 e3;refine ⟨_,_,_,Done.now hf.sto (u:=.string ⟨((b.take hh).drop l).toArray⟩) ?_ (.d _ _ (.str _ (by simp;omega))) trivial,hK⟩;have hex:(⟨b.toArray⟩:ByteArray).extract l hh=⟨((b.take hh).drop l).toArray⟩:=by
          apply ByteArray.ext;rw [ByteArray.data_extract];apply Array.ext';simp [List.drop_take]
        have hsz:(⟨b.toArray⟩:ByteArray).size=b.length:=by simp [ByteArray.size]
        rw [hrun];simp [Instr.sliceAt,Instr.slice,run_underlying ((hΘ t i hi).str hk),hsz,hr',hex]
  · obtain ⟨⟨i,e,j,hi,hk,hj⟩,hmx,e1,e2,e3,hK⟩:=h;cases hx with
    | d _ _ hr=>cases hr with
      | nil=>
        obtain ⟨m',hr',h1,h2,h3,h4⟩:=run_bounds (P:=P) (isS:=true) (cap:=0) b1 b2 b3 (Nat.le_refl _) hmx e1 e2 e3;have hm0:m'=0:=by omega
        subst hm0;refine ⟨_,_,_,Done.now hf.sto (u:=.slice none 0 0) ?_ (.d _ _ .nil) trivial,hK⟩;rw [hrun];simp [Instr.sliceAt,Instr.slice,run_underlying ((hΘ t i hi).slice hk),hr',(hΘ e j hj).run_size]
  · obtain ⟨⟨i,e,j,hi,hk,hj,rfl⟩,hmx,m,hh,l,e1,e2,e3,hK⟩:=h;rename_i xs;cases hx with
    | d _ _ hr=>
      obtain ⟨A,n,c,rfl,rfl,hlc,_⟩:=rd_cut hr (m:=0) (h:=0) (l:=0);obtain ⟨m',hr',h1,h2,h3,h4⟩:=run_bounds (P:=P) (isS:=true) (cap:=c) b1 b2 b3 hlc hmx e1 e2 e3;obtain ⟨A',n',c',he,hn',hlc',hcut⟩:=rd_cut hr (m:=m') (h:=hh) (l:=l);simp only [Value.slice.injEq] at he;obtain ⟨rfl,rfl,rfl⟩:=he;refine ⟨_,_,_,Done.now hf.sto ?_ (.d _ _ (hcut h3 h1 h2 h4)) trivial,hK⟩;rw [hrun];simp [Instr.sliceAt,Instr.slice,run_underlying ((hΘ t i hi).slice hk),hr',(hΘ e j hj).run_size]
  · obtain ⟨i,e,j,xs,hh,hi,hk,hj,hq,rfl,e2,e3,hK⟩:=h;rename_i q;have hvm:vm=none:=by cases vm <;> first | rfl | exact b3.elim
    subst hvm;cases hx with
    | row _ _ hv=>
      obtain rfl:=hv _ _ _ hq;have hR:=hf.sto.row _ _ _ _ hq;obtain ⟨vs,hown,h2,h3,h4⟩:=hR.out;have hcap:∃ A c,γ q=.slice A xs.length c∧xs.length≤c∧(A=none→c=0):=by
        rcases hown.2 with ⟨k1,k2⟩ | ⟨g,cap,cur,k1,k2,k3,k4,_⟩
        · exact ⟨none,0,by rw [k1,k2],by omega,fun _=>rfl⟩
        · exact ⟨_,cap,k1,k4,by simp⟩
      obtain ⟨A,c,hγ,hlc,hA⟩:=hcap;obtain ⟨m',hr',g1,g2,g3,g4⟩:=run_bounds (P:=P) (isS:=true) (cap:=c) b1 b2 b3 hlc (.inl rfl) rfl e2 e3;have hm':m'=c:=by
        have:(Instr.sliceBounds true xs.length c vl vh none).run P w=.ok (0,hh,c) w:=by
          clear hrun;cases cl with
          | none=>
            cases vl with
            | some v=>exact b1.elim
            | none=>
              cases ch with
              | none=>
                cases vh with
                | some v=>exact b2.elim
                | none=>
                  simp [bndO] at e2;subst e2;simp [Instr.sliceBounds]
              | some d=>
                cases vh with
                | none=>exact b2.elim
                | some u=>
                  have hq2:=fun code=>run_bnd (P:=P) (code:=code) b2 e2 hlc;simp [Instr.sliceBounds,(hq2 _).1]
          | some cc=>
            cases vl with
            | none=>exact b1.elim
            | some v=>
              have hq1:=fun code=>run_bnd (P:=P) (code:=code) b1 e3 (Nat.le_refl _);cases ch with
              | none=>
                cases vh with
                | some v=>exact b2.elim
                | none=>
                  simp [bndO] at e2;subst e2;simp [Instr.sliceBounds,(hq1 _).1]
              | some d=>
                cases vh with
                | none=>exact b2.elim
                | some u=>
                  have hq2:=fun code=>run_bnd (P:=P) (code:=code) b2 e2 hlc;simp [Instr.sliceBounds,(hq1 _).1,(hq2 _).1]
        rw [this] at hr';injection hr' with e _;injection e with _ e;injection e with _ e;exact e.symm
      subst hm';have hb':blk (γ q)=blk (.slice A hh m'):=by rw [hγ];cases A <;> rfl
      obtain ⟨m1,m2⟩:=hf.sto.put_row (w':=w) (some q) (v:=.slice A hh m') (e:=e) (z:=j.sz) (xs:=xs.take hh) (blk (γ q)) (fun t ht=>by injection ht with ht;subst ht;exact ⟨_,hq,rfl⟩) (by simp) rfl rfl rfl (Nat.le_refl _) (fun _ _ _=>rfl)
        ⟨vs.take hh,by
          have hl1:(xs.take hh).length=hh:=by simp;omega
          rw [hl1];have hcl:(cellsOf vs).take (hh * j.sz)=cellsOf (vs.take hh):=by
            have h5:cellsOf vs=cellsOf (vs.take hh)++cellsOf (vs.drop hh):=by rw [← cellsOf_append,List.take_append_drop]
            have h6:(cellsOf (vs.take hh)).length=hh * j.sz:=by
              rw [cellsOf_length (z:=j.sz) (fun i u hu=>h4 i u (by rw [List.getElem?_take] at hu;split at hu;exact hu;cases hu))];rw [List.length_take,Nat.min_eq_left (by omega)]
            rw [h5,← h6];exact List.take_left
          refine ⟨?_,?_⟩
          · rw [← hcl,List.length_take,hown.1];have:hh * j.sz≤xs.length * j.sz:=Nat.mul_le_mul_right _ g4;omega
          · rcases hown.2 with ⟨k1,k2⟩ | ⟨g,cap,cur,k1,k2,k3,k4,k5,k6,k7⟩
            · rw [hγ] at k1;injection k1 with k1 _ k3;subst k1;subst k3;have:hh=0:=by omega
              subst this;exact .inl ⟨rfl,rfl⟩
            · rw [hγ] at k1;injection k1 with k1 _ kk;subst k1;subst kk;refine .inr ⟨g,m',cur,rfl,k2,k3,by omega,k5,k6,?_⟩;rw [← hcl,← k7,List.take_take,Nat.min_eq_left (Nat.mul_le_mul_right _ g4)],
          by rw [List.length_take,List.length_take,h2],fun i x u h5 h6=>(by
            rw [List.getElem?_take] at h5 h6;split at h5
            · rw [if_pos (by assumption)] at h6;exact h3 i x u h5 h6
            · cases h5),
          fun i u h6=>(by
            rw [List.getElem?_take] at h6;split at h6
            · exact h4 i u h6
            · cases h6)⟩
        (fun g hg=>⟨(hf.sto.away q _ g hq (by rw [hb',hg])).2,.inr (by rw [hb',hg])⟩)
      refine ⟨_,_,_,⟨_,w,S,_,.inl ?_,m1,m2,.row _ _ fun e' z' xs' hx'=>(upd_same _ _ _).symm,Nat.lt_succ_self _⟩,hK⟩;rw [hrun,hγ];simp [Instr.sliceAt,Instr.slice,run_underlying ((hΘ t i hi).slice hk),hr',(hΘ e j hj).run_size,Addr.add_zero']
  · exact h.elim
end
def byteL:List D→Option (List UInt8)
 | []=>some []
 | .int .u8 n :: r=>(byteL r).map (UInt8.ofNat n.toNat :: ·)
 | _ :: _=>none
def bytesD (b:List UInt8):List D:=b.map fun c=>.int .u8 c.toNat
def coOp (Θ:Tab) (o:Nat→Option AO) (src dst:TypeId) (x:SV) (K:SV→Prop):Prop:=
 ∃ i j,Θ src=some i∧Θ dst=some j∧match x with
 | .d (.int _ n)=>match j.k with
  | .int k'=>K (.d (.int k' (k'.wrap n)))
  | .str=>(∃ q,i.k=.int q)∧K (.d (.str (Utf8.encode n).data.toList))
  | _=>False
 | .d (.str b)=>i.k=.str∧match j.k with
  | .str=>K (.d (.str b))
  | .slice e=>(∃ je,Θ e=some je∧je.k=.int .u8)∧b.length≤9223372036854775807∧K (.d (.sl 1 (bytesD b)))
  | _=>False
 | x=>j.k=.str∧(∃ e je,i.k=.slice e∧Θ e=some je∧je.k=.int .u8)∧∃ ys b,srcOf o 1 x=some ys∧byteL ys=some b∧K (.d (.str b))
theorem byteL_rd {w:World} {S:Nat→Prop}:∀ {ys:List D} {b:List UInt8} {vs:List Value},byteL ys=some b→vs.length=ys.length→(∀ (i:Nat) (x:D) (u:Value),ys[i]?=some x→vs[i]?=some u→Rd w S x u)→
    ∃ ns:List Int,vs=ns.map (Value.int .u8)∧b=ns.map fun n=>UInt8.ofNat n.toNat
  | [],b,[],h,_,_=>by
    simp only [byteL,Option.some.injEq] at h;subst h;exact ⟨[],rfl,rfl⟩
  | y :: ys,b,v :: vs,h,hl,hr=>by
    have h0:=hr 0 y v rfl rfl;cases y with
    | int k n=>
      cases k with
      | u8=>
        simp only [byteL] at h;obtain ⟨b',hb,rfl⟩:=Option.map_eq_some_iff.1 h;obtain ⟨ns,h1,h2⟩:=byteL_rd hb (by simpa using hl) (fun i x u h1 h2=>hr (i+1) x u (by simpa using h1) (by simpa using h2));cases h0 with
        | int=>exact ⟨n :: ns,by rw [h1];rfl,by rw [h2];rfl⟩
      | _=>simp [byteL] at h
    | _=>simp [byteL] at h
section
variable {P:Program} {Θ:Tab} {s:St} {a:Act} {w:World} {S:Nat→Prop} {γ:Nat→Value} {op:Oper}
theorem cells_ints:∀ (ns:List Int),cellsOf (ns.map (Value.int .u8))=ns.map (Value.int .u8)
 | []=>rfl
 | n :: ns=>by
  rw [List.map_cons,cellsOf_cons,cells_ints ns];rfl
theorem foldl_bytes:∀ (ns:List Int) (r:ByteArray),ns.foldl (fun r n=>r.push (UInt8.ofNat n.toNat)) r=⟨r.data++(ns.map fun n=>UInt8.ofNat n.toNat).toArray⟩
 | [],r=>by simp
 | n :: ns,r=>by
  rw [List.foldl_cons,foldl_bytes ns];apply ByteArray.ext;apply Array.ext';simp [ByteArray.push]
theorem encode_len4 (n:Int):(Utf8.encode n).data.toList.length≤4:=by
 unfold Utf8.encode;generalize (if Utf8.valid n=true then n.toNat else Utf8.runeError)=c;simp only
 repeat' split
 all_goals simp
theorem encode_len (n:Int):(Utf8.encode n).data.toList.length≤9223372036854775807:=by have:=encode_len4 n;omega
theorem done_convert (hΘ:TabOk P Θ) (hf:Fr s a w S γ) {src dst:TypeId} {x:Operand} {K:SV→Prop} (ho:op.op=.convert src dst x) (h:coOp Θ s.o src dst (ev s.sl x) K) :
    ∃ v,Done w S γ s.o s.nk ((execOp a.eval op).run P w) v s.o s.nk∧K v:=by
  obtain ⟨i,j,hi,hj,h⟩:=h;have hrun:(execOp a.eval op).run P w=((convert src dst (a.eval x)).run P w).andThen fun u w'=>.ok (.value u) w':=by simp [execOp,ho]
  have hx:=hf.ev x;generalize Abs.ev s.sl x=c at h hx;generalize a.eval x=ux at hx hrun;split at h
  · cases hx with
    | d _ _ hr=>cases hr with
      | int k n=>
        split at h
        · rename_i k n _ k' hk';refine ⟨_,Done.now hf.sto (u:=.int k' (k'.wrap n)) ?_ (.d _ _ (.int _ _)) trivial,h⟩;have hsrc:∃ d,P.underlying src=some d:=by
            have:=(hΘ src i hi).k;unfold tkOf at this;cases hu:P.underlying src with
            | none=>simp [hu] at this
            | some d=>exact ⟨d,rfl⟩
          obtain ⟨d,hd⟩:=hsrc;rw [hrun];simp [convert,run_underlying hd,run_underlying ((hΘ dst j hj).int hk'),Conv.intToInt]
        · rename_i k n _ hjk;obtain ⟨⟨q,hq⟩,h⟩:=h;have he:(⟨(Utf8.encode n).data.toList.toArray⟩:ByteArray)=Utf8.encode n:=by
            apply ByteArray.ext;simp
          have hle:=encode_len n;refine ⟨_,Done.now hf.sto (u:=.string ⟨(Utf8.encode n).data.toList.toArray⟩) ?_ (.d _ _ (.str _ hle)) trivial,h⟩;rw [hrun,he];simp [convert,run_underlying ((hΘ src i hi).int hq),run_underlying ((hΘ dst j hj).str hjk),Conv.intToString]
        · exact h.elim
  · rename_i b;obtain ⟨hik,h⟩:=h;cases hx with
    | d _ _ hr=>cases hr with
      | str _ hm0=>
        split at h
        · rename_i hjk;refine ⟨_,Done.now hf.sto (u:=.string ⟨b.toArray⟩) ?_ (.d _ _ (.str _ hm0)) trivial,h⟩;rw [hrun];simp [convert,run_underlying ((hΘ src i hi).str hik),run_underlying ((hΘ dst j hj).str hjk)]
        · rename_i e hjk;obtain ⟨⟨je,hje,hjek⟩,hle,hK⟩:=h;have hr:=Go.Lib.run_convert_string_bytes (P:=P) w src dst e ⟨b.toArray⟩ ((hΘ src i hi).str hik) ((hΘ dst j hj).slice hjk) ((hΘ e je hje).int hjek);have hos:(Go.Lib.bytesWorld w e ⟨b.toArray⟩).os=w.os∧(Go.Lib.bytesWorld w e ⟨b.toArray⟩).tape=w.tape∧(Go.Lib.bytesWorld w e ⟨b.toArray⟩).output=w.output:=by
            simp [Go.Lib.bytesWorld,World.freeze,World.alloc,World.drew,-World.alloc_eq,-World.drew_eq]
          obtain ⟨m1,m2⟩:=hf.sto.more (w':=Go.Lib.bytesWorld w e ⟨b.toArray⟩) (fun k=>k=w.heap.size) (fun k hk=>by subst hk;rw [Go.Lib.bytesWorld_size];omega) hos.1 hos.2.1 hos.2.2 (by rw [Go.Lib.bytesWorld_size];omega) (fun k hk=>Go.Lib.bytesWorld_at_old w e _ k hk);have hsz:(⟨b.toArray⟩:ByteArray).size=b.length:=by simp [ByteArray.size]
          refine ⟨_,⟨_,_,_,_,.inl (by rw [hrun,hr];rfl),m1,m2,.d _ _ ?_,trivial⟩,hK⟩;have hlen:(bytesD b).length=(⟨b.toArray⟩:ByteArray).size:=by rw [hsz];simp [bytesD]
          rw [← hlen];refine .sl 1 _ _ _ (b.map fun c=>.int .u8 c.toNat) ?_ ?_ (.inr rfl) (by simp [bytesD]) (fun i x u h5 h6=>?_) (fun i u h6=>?_) (fun i jj u q h6 h7=>?_)
          · rw [hlen];exact grownCap_ge w _ 0 e
          · have:=grownCap_le_maxLen w (bytesD b).length 0 e (by simp [bytesD,maxLen];exact hle);simpa [maxLen] using this
          · simp only [bytesD] at h5;rw [List.getElem?_map] at h5 h6;obtain ⟨c,hc,rfl⟩:=Option.map_eq_some_iff.1 h5;rw [hc] at h6;simp only [Option.map_some,Option.some.injEq] at h6;subst h6;exact .int _ _
          · rw [List.getElem?_map] at h6;obtain ⟨c,hc,rfl⟩:=Option.map_eq_some_iff.1 h6;rfl
          · rw [List.getElem?_map] at h6;obtain ⟨c,hc,rfl⟩:=Option.map_eq_some_iff.1 h6;have hj0:jj=0:=by
              have:=(Array.getElem?_eq_some_iff.1 h7).1;simp [Value.cells] at this;exact this
            subst hj0;simp [Value.cells] at h7;subst h7;have hlt:=(List.getElem?_eq_some_iff.1 hc).1;rw [Nat.mul_one,Nat.add_zero,Addr.add_lit,Nat.zero_add,Go.Lib.bytesWorld_cell w e ⟨b.toArray⟩ i (by rw [hsz];exact hlt)];simp [List.getD,hc]
        · exact h.elim
  · obtain ⟨hjk,⟨e,je,hik,hje,hjek⟩,ys,b,hsrc,hb,hK⟩:=h;obtain ⟨vs,h1,h2,h3,h4,hlm⟩:=(src_of hf.sto hx hsrc).out;obtain ⟨ns,rfl,rfl⟩:=byteL_rd hb h1 h2;have hcv:∀ A n c,(convert src dst (.slice A n c)).run P w=(Conv.bytesToString (.slice A n c)).run P w:=fun A n c=>run_convert_bytes_string w src dst e A n c ((hΘ src i hi).slice hik) ((hΘ e je hje).int hjek) ((hΘ dst j hj).str hjk);refine ⟨_,Done.now hf.sto (u:=.string ⟨(ns.map fun n=>UInt8.ofNat n.toNat).toArray⟩) ?_ (.d _ _ (.str _ (by simpa using hlm))) trivial,hK⟩;rcases h4 with ⟨c,rfl,h5⟩ | ⟨ad,c,rfl,h5⟩
    · have:ns=[]:=by simpa using h5
      subst this;rw [hrun,hcv];simp [Conv.bytesToString];rfl
    · rw [hrun,hcv];have hld:=run_loadCells_list (P:=P) w ad (ns.map (Value.int .u8)) (fun j u hu=>by
        rw [← cells_ints] at hu;exact h5 j u hu)
      rw [List.length_map] at hld ⊢;rw [run_bytesToString w ad _ c ns hld,foldl_bytes];simp [ByteArray.empty,ByteArray.emptyWithCapacity];rfl
end
def mmD (mx:Bool):SV→SV→Option D
 | .d (.int k x),.d (.int k' y)=>if k=k' then some (.int k (if mx=true then (if x < y then y else x) else (if y < x then y else x))) else none
 | _,_=>none
section
variable {P:Program} {Θ:Tab} {s:St} {a:Act} {w:World} {S:Nat→Prop} {γ:Nat→Value} {op:Oper}
theorem done_mm (hf:Fr s a w S γ) {ts:Array TypeId} {x y:Operand} {b:Builtin} {r:D} (hb:b=.max∨b=.min) (ho:op.op=.call { callee:=.builtin b,args:=#[x,y],argTypes:=ts })
    (h:mmD (b == .max) (ev s.sl x) (ev s.sl y)=some r):Done w S γ s.o s.nk ((execOp a.eval op).run P w) (.d r) s.o s.nk:=by
  have hx:=hf.ev x;have hy:=hf.ev y;have hrun:(execOp a.eval op).run P w=((if b=.max then Builtin.max_ ts op.type #[a.eval x,a.eval y] else Builtin.min_ ts op.type #[a.eval x,a.eval y]).run P w).andThen fun v w'=>.ok (.value v) w':=by
    unfold execOp;rcases hb with rfl | rfl <;> simp only [ho,resolve,invoke,builtin,Sem.run_bind,Sem.run_pure,Result.andThen_ok,List.map_toArray,List.map_cons,List.map_nil] <;> rfl
  generalize Abs.ev s.sl x=cx at h hx;generalize Abs.ev s.sl y=cy at h hy;generalize a.eval x=ux at hx hrun;generalize a.eval y=uy at hy hrun;unfold mmD at h;split at h
  · split at h
    · rename_i k n k' m hk;subst hk;simp only [Option.some.injEq] at h;subst h;cases hx with
      | d _ _ hr=>cases hr with
        | int=>cases hy with
          | d _ _ hr=>cases hr with
            | int=>
              refine Done.now hf.sto ?_ (.d _ _ (.int _ _)) trivial;rw [hrun];rcases hb with rfl | rfl
              · simp [Builtin.max_,Builtin.max2]
              · simp [Builtin.min_,Builtin.min2]
    · cases h
  · cases h
end
theorem alloc_new (w:World) (O:Obj):(w.alloc O).heap[w.heap.size]?=some O:=by show (w.heap.push _)[w.heap.size]?=_;simp
theorem Sto.new_raw {w:World} {S:Nat→Prop} {γ:Nat→Value} {o:Nat→Option AO} {nk:Nat} (h:Sto w S γ o nk) (O:Obj) (ob:RO) (hat:ob.At (w.alloc O) S w.heap.size) {v:Value} (hv:v=(if ob.isMap=true then .map (some w.heap.size) else .pointer (some ⟨w.heap.size,0,none⟩))) :
    Sto (w.alloc O) S (upd γ nk v) (upd o nk (some (.raw ob))) (nk+1)∧Tr w S γ o nk (w.alloc O) S (upd γ nk v) (upd o nk (some (.raw ob))) (nk+1):=by
  have hold:∀ k,k < w.heap.size→(w.alloc O).heap[k]?=w.heap[k]?:=fun k hk=>alloc_old w O k hk;have hbv:blk v=some w.heap.size:=by rw [hv];split <;> rfl
  have hkeys:∀ t x,t < nk→upd o nk (some (.raw ob)) t=some x→∃ y,o t=some y∧AO.kin y x∧upd γ nk v t=γ t:=by
    intro t x ht hx;rw [upd_ne _ _ (by omega)] at hx;exact ⟨x,hx,AO.kin_refl x,upd_ne _ _ (by omega)⟩
  have hlive:∀ t x g,upd o nk (some (.raw ob)) t=some x→blk (upd γ nk v t)=some g→(t=nk∧g=w.heap.size)∨(t≠nk∧o t=some x∧blk (γ t)=some g):=by
    intro t x g hx hg;by_cases ht:t=nk
    · subst ht;rw [upd_same,hbv] at hg;injection hg with hg;exact .inl ⟨rfl,hg.symm⟩
    · rw [upd_ne _ _ ht] at hx hg;exact .inr ⟨ht,hx,hg⟩
  refine ⟨⟨fun k hk=>by have:=h.s_lt k hk;simp;omega,?_,?_,?_,?_,?_,?_⟩,⟨rfl,rfl,rfl,by simp,Nat.le_succ _,fun k hk _=>hold k hk,fun _ h=>h,fun _ h=>.inl h,?_,hkeys⟩⟩
  · intro t x hx;by_cases ht:t=nk
    · omega
    · rw [upd_ne _ _ ht] at hx;have:=h.o_lt t x hx;omega
  · intro t cs' hc;have ht:t≠nk:=fun e'=>by subst e';rw [upd_same] at hc;cases hc
    rw [upd_ne _ _ ht] at hc;obtain ⟨⟨g,arr',ty',h4,h5,h6,h7⟩,hl'⟩:=h.box t cs' hc;rw [upd_ne _ _ ht];refine ⟨⟨g,arr',ty',h4,?_,h6,fun i c u h8 h9=>(h7 i c u h8 h9).move (fun _ h=>h) (fun k hk=>hold k (h.s_lt k hk)) hkeys (lts_get hl' i c h8)⟩,SV.lts_mono (Nat.le_succ _) hl'⟩;rw [hold g (Array.getElem?_eq_some_iff.1 h5).1];exact h5
  · intro t e z xs hx;have ht:t≠nk:=fun e'=>by subst e';rw [upd_same] at hx;cases hx
    rw [upd_ne _ _ ht] at hx;rw [upd_ne _ _ ht];obtain ⟨vs,h1,h2,h3,h4⟩:=(h.row t e z xs hx).out;exact ⟨vs,h1.alloc _,h2,fun i x v h5 h6=>(h3 i x v h5 h6).mono (fun _ h=>h) (fun k hk=>hold k (h.s_lt k hk)),h4⟩
  · intro t ob' hx;by_cases ht:t=nk
    · subst ht;rw [upd_same] at hx;simp only [Option.some.injEq,AO.raw.injEq] at hx;subst hx;rw [upd_same];exact ⟨w.heap.size,hv,hat⟩
    · rw [upd_ne _ _ ht] at hx;rw [upd_ne _ _ ht];exact (h.raw t ob' hx).kept (fun _ h=>h) (fun k hk=>hold k (h.s_lt k hk)) fun g hg=>hold g (h.away t _ g hx hg).2
  · intro t x g hx hg;rcases hlive t x g hx hg with ⟨_,rfl⟩ | ⟨_,h1,h2⟩
    · exact ⟨fun hS=>by have:=h.s_lt _ hS;omega,by simp⟩
    · have:=h.away t x g h1 h2;exact ⟨this.1,by have:=this.2;simp;omega⟩
  · intro t t' x x' g hne' hx hx' hg hg';rcases hlive t x g hx hg with ⟨h1,h2⟩ | ⟨h1,h2,h3⟩ <;> rcases hlive t' x' g hx' hg' with ⟨h1',h2'⟩ | ⟨h1',h2',h3'⟩
    · exact hne' (h1.trans h1'.symm)
    · have:=(h.away t' x' g h2' h3').2;omega
    · have:=(h.away t x g h2 h3).2;omega
    · exact h.apart t t' x x' g hne' h2 h2' h3 h3'
  · rintro g ⟨t,x,hx,hg⟩;rcases hlive t x g hx hg with ⟨_,h2⟩ | ⟨_,h1,h2⟩
    · exact .inl (by omega)
    · exact .inr ⟨t,x,h1,h2⟩
theorem Sto.set_raw {w w':World} {S:Nat→Prop} {γ:Nat→Value} {o:Nat→Option AO} {nk:Nat} (h:Sto w S γ o nk) {t g:Nat} {ob0 ob:RO} (hkin:ob0.isMap=ob.isMap)
    (ht:o t=some (.raw ob0)) (hg:blk (γ t)=some g) (hw:ob.At w' S g) (hoth:∀ k,k≠g→w'.heap[k]?=w.heap[k]?)
    (hsame:w'.os=w.os∧w'.tape=w.tape∧w'.output=w.output∧w'.heap.size=w.heap.size) :
    Sto w' S γ (upd o t (some (.raw ob))) nk∧Tr w S γ o nk w' S γ (upd o t (some (.raw ob))) nk:=by
  have hSg:∀ k,S k→k≠g:=fun k hk e=>(h.away t _ g ht hg).1 (e ▸ hk);have hup:∀ u x,upd o t (some (.raw ob)) u=some x→∃ y,o u=some y∧AO.kin y x:=by
    intro u x hx;unfold upd at hx;split at hx
    · rename_i he;subst he;simp only [Option.some.injEq] at hx;subst hx;exact ⟨_,ht,hkin⟩
    · exact ⟨x,hx,AO.kin_refl x⟩
  have hkeys:∀ u x,u < nk→upd o t (some (.raw ob)) u=some x→∃ y,o u=some y∧AO.kin y x∧γ u=γ u:=fun u x _ hx=>by
    obtain ⟨y,h1,h2⟩:=hup u x hx;exact ⟨y,h1,h2,rfl⟩
  have hne:∀ u x b,u≠t→o u=some x→blk (γ u)=some b→b≠g:=fun u x b hu hx hb e=>h.apart u t x _ g hu hx ht (e ▸ hb) hg;refine ⟨⟨fun k hk=>by rw [hsame.2.2.2];exact h.s_lt k hk,fun u x hx=>?_,fun u cs' hc=>?_,fun u e z xs hx=>?_,fun u ob' hx=>?_,fun u x b hx hb=>?_,fun u u' x x' b hne hx hx' hb hb'=>?_⟩,
    ⟨hsame.1,hsame.2.1,hsame.2.2.1,Nat.le_of_eq hsame.2.2.2.symm,Nat.le_refl _,fun k hk hn=>hoth k fun e=>hn ⟨t,_,ht,by rw [hg,e]⟩,fun _ h=>h,fun _ h=>.inl h,?_,hkeys⟩⟩
  · obtain ⟨y,h1,_⟩:=hup u x hx;exact h.o_lt u y h1
  · have hu:u≠t:=fun e=>by subst e;rw [upd_same] at hc;cases hc
    rw [upd_ne _ _ hu] at hc;obtain ⟨⟨g',arr',ty',h4,h5,h6,h7⟩,hl'⟩:=h.box u cs' hc;exact ⟨⟨g',arr',ty',h4,by rw [hoth g' (hne u _ g' hu hc (by rw [h4];rfl))];exact h5,h6,fun i c v h1 h2=>(h7 i c v h1 h2).move (fun _ h=>h) (fun k hk=>hoth k (hSg k hk)) hkeys (lts_get hl' i c h1)⟩,hl'⟩
  · have hu:u≠t:=fun e=>by subst e;rw [upd_same] at hx;cases hx
    rw [upd_ne _ _ hu] at hx;obtain ⟨vs,h1,h2,h3,h4⟩:=(h.row u e z xs hx).out;refine ⟨vs,⟨h1.1,?_⟩,h2,fun i x v h5 h6=>(h3 i x v h5 h6).mono (fun _ h=>h) (fun k hk=>hoth k (hSg k hk)),h4⟩;rcases h1.2 with h5 | ⟨b,cap,cur,h5,h6,h7,h8⟩
    · exact .inl h5
    · exact .inr ⟨b,cap,cur,h5,h6,by rw [hoth b (hne u _ b hu hx (by rw [h5];rfl))];exact h7,h8⟩
  · by_cases hu:u=t
    · subst hu;rw [upd_same] at hx;simp only [Option.some.injEq,AO.raw.injEq] at hx;subst hx;obtain ⟨g',h1,h2⟩:=(h.raw u ob0 ht).out;have hgg:g'=g:=by
        rw [h1] at hg;split at hg <;> simpa [blk] using hg
      subst hgg;exact ⟨g',by rw [← hkin];exact h1,hw⟩
    · rw [upd_ne _ _ hu] at hx;exact (h.raw u ob' hx).kept (fun _ h=>h) (fun k hk=>hoth k (hSg k hk)) fun b hb=>hoth b (hne u _ b hu hx hb)
  · obtain ⟨y,h1,_⟩:=hup u x hx;have:=h.away u y b h1 hb;exact ⟨this.1,by rw [hsame.2.2.2];exact this.2⟩
  · obtain ⟨y,h1,_⟩:=hup u x hx;obtain ⟨y',h1',_⟩:=hup u' x' hx';exact h.apart u u' y y' b hne h1 h1' hb hb'
  · rintro b ⟨u,x,hx,hb⟩;obtain ⟨y,h1,_⟩:=hup u x hx;exact .inr ⟨u,y,h1,hb⟩
def itO (s:List UInt8) (pos:Nat):Obj:=.stringIter ⟨s.toArray⟩ pos
def itOb (s:List UInt8) (pos:Nat):RO:=.ob (itO s pos)
section
variable {P:Program} {Θ:Tab} {s:St} {a:Act} {w:World} {S:Nat→Prop} {γ:Nat→Value} {op:Oper}
theorem done_range (hΘ:TabOk P Θ) (hf:Fr s a w S γ) {t:TypeId} {x:Operand} {i:TI} {l:List UInt8} (ho:op.op=.range t x) (hi:Θ t=some i) (hk:i.k=.str) (hx:ev s.sl x=.d (.str l)) :
    Done w S γ s.o s.nk ((execOp a.eval op).run P w) (.raw s.nk) (upd s.o s.nk (some (.raw (itOb l 0)))) (s.nk+1):=by
  have h1:=hf.ev x;rw [hx] at h1;generalize hu:a.eval x=ux at h1;cases h1 with
  | d _ _ hr=>cases hr with
    | str=>
      obtain ⟨k1,k2⟩:=hf.sto.new_raw (itO l 0) (itOb l 0) (alloc_new _ _) (v:=.pointer (some ⟨w.heap.size,0,none⟩)) rfl;refine ⟨.pointer (some ⟨w.heap.size,0,none⟩),_,S,_,.inl ?_,k1,k2,.raw _ _ fun ob hob=>(upd_same _ _ _).symm,Nat.lt_succ_self _⟩;simp [execOp,ho,hu,Instr.range,run_underlying ((hΘ t i hi).str hk),itO]
theorem done_next (hf:Fr s a w S γ) {x:Operand} {k pos:Nat} {l:List UInt8} (ho:op.op=.next x true) (hx:ev s.sl x=.raw k) (hk:s.o k=some (.raw (itOb l pos))) :
    if pos < l.length then Done w S γ s.o s.nk ((execOp a.eval op).run P w) (.tup [.d (.bool true),.d (.int .i64 pos),.d (.int .i32 (Utf8.decode ⟨l.toArray⟩ pos).1)]) (upd s.o k (some (.raw (itOb l (pos+(Utf8.decode ⟨l.toArray⟩ pos).2))))) s.nk
    else Done w S γ s.o s.nk ((execOp a.eval op).run P w) (.tup [.d (.bool false)]) s.o s.nk:=by
  have h1:=hf.ev x;rw [hx] at h1;generalize hu:a.eval x=ux at h1;obtain ⟨g,h2,h3⟩:=(hf.sto.raw k _ hk).out;have h3:w.heap[g]?=some (itO l pos):=h3;have hγ:γ k=.pointer (some ⟨g,0,none⟩):=h2;cases h1 with
  | raw _ _ hv=>
    have hux:=hv _ hk;rw [hγ] at hux;subst hux;have hrun:(execOp a.eval op).run P w=((Instr.next (.pointer (some ⟨g,0,none⟩)) true op.type).run P w).andThen fun u w'=>.ok (.value u) w':=by simp [execOp,ho,hu]
    by_cases hlt:pos < l.length
    · rw [if_pos hlt];have hsz:pos < (⟨l.toArray⟩:ByteArray).size:=by simpa [ByteArray.size] using hlt
      obtain ⟨k1,k2⟩:=hf.sto.set_raw (w':={ w with heap:=w.heap.setIfInBounds g (itO l (pos+(Utf8.decode ⟨l.toArray⟩ pos).2)) }) (ob:=itOb l (pos+(Utf8.decode ⟨l.toArray⟩ pos).2)) (by rfl) hk (by rw [hγ];rfl)
        (by show (w.heap.setIfInBounds g _)[g]?=_;simp [(Array.getElem?_eq_some_iff.1 h3).1]) (fun j hj=>by simp [Array.getElem?_setIfInBounds_ne (Ne.symm hj)]) ⟨rfl,rfl,rfl,by simp⟩
      refine ⟨.tuple #[.bool true,.int .i64 pos,.int .i32 (Utf8.decode ⟨l.toArray⟩ pos).1],_,S,γ,.inl ?_,k1,k2,.tup _ [_,_,_] rfl ?_,⟨trivial,trivial,trivial,trivial⟩⟩
      · rw [hrun];simp [Instr.next,getObj,Sem.run,h3,itO,hsz,setObj,goInt]
      · intro i c v h4 h5
        match i with
        | 0=>simp at h4 h5;subst h4;subst h5;exact .d _ _ (.bool _)
        | 1=>simp at h4 h5;subst h4;subst h5;exact .d _ _ (.int _ _)
        | 2=>simp at h4 h5;subst h4;subst h5;exact .d _ _ (.int _ _)
        | i+3=>simp at h4
    · rw [if_neg hlt];have hsz:¬ pos < (⟨l.toArray⟩:ByteArray).size:=by simpa [ByteArray.size] using hlt
      refine Done.now hf.sto (u:=.tuple #[.bool false]) ?_ (.tup _ [_] rfl fun i c v h4 h5=>?_) ⟨trivial,trivial⟩
      · rw [hrun];simp [Instr.next,getObj,Sem.run,h3,itO,hsz]
      · match i with
        | 0=>simp at h4 h5;subst h4;subst h5;exact .d _ _ (.bool _)
        | i+1=>simp at h4
end
def mapEs (ks:List (List UInt8)) (n:Nat):List MapEntry:=(ks.zipIdx n).map fun p=>{ key:=.string ⟨p.1.toArray⟩,val:=.bool true,born:=p.2 }
def setO (ks:List (List UInt8)):Obj:=.map (mapEs ks 0).toArray ks.length
def setOb (ks:List (List UInt8)):RO:=.ob (setO ks)
theorem bs_beq (k x:List UInt8):((⟨k.toArray⟩:ByteArray) == ⟨x.toArray⟩)=(k.toArray == x.toArray):=rfl
theorem bs_ne {k x:List UInt8} (h:k≠x):((⟨k.toArray⟩:ByteArray) == ⟨x.toArray⟩)=false:=by
 rw [bs_beq];simpa using h
theorem bs_eq (k:List UInt8):((⟨k.toArray⟩:ByteArray) == ⟨k.toArray⟩)=true:=by
 rw [bs_beq];simp
theorem find_not {k:List UInt8}:∀ (ks:List (List UInt8)) (n i:Nat),k ∉ ks→Instr.findNow .string (.string ⟨k.toArray⟩) (mapEs ks n) i=some none
 | [],n,i,_=>rfl
 | x :: ks,n,i,h=>by
  simp only [List.mem_cons,not_or] at h;have hne:((⟨k.toArray⟩:ByteArray) == ⟨x.toArray⟩)=false:=bs_ne h.1;simp only [mapEs,List.zipIdx_cons,List.map_cons,Instr.findNow,Instr.sameNow,hne];exact find_not ks (n+1) (i+1) h.2
theorem find_in {k:List UInt8}:∀ (ks:List (List UInt8)) (n i:Nat),k∈ks→∃ j,Instr.findNow .string (.string ⟨k.toArray⟩) (mapEs ks n) i=some (some (j,.bool true))
 | [],n,i,h=>by simp at h
 | x :: ks,n,i,h=>by
  by_cases hx:k=x
  ·subst hx;exact ⟨i,by simp only [mapEs,List.zipIdx_cons,List.map_cons,Instr.findNow,Instr.sameNow,bs_eq]⟩
  ·have hne:((⟨k.toArray⟩:ByteArray) == ⟨x.toArray⟩)=false:=bs_ne hx;obtain ⟨j,hj⟩:=find_in ks (n+1) (i+1) ((List.mem_cons.1 h).resolve_left hx);refine ⟨j,?_⟩;simp only [mapEs,List.zipIdx_cons,List.map_cons,Instr.findNow,Instr.sameNow,hne];exact hj
section
variable {P:Program} {Θ:Tab} {s:St} {a:Act} {w:World} {S:Nat→Prop} {γ:Nat→Value} {op:Oper}
theorem check_str {kt:TypeId} {k:ByteArray} (hd:P.underlying kt=some .string) (e:Bool):(Instr.checkKey e 10000 kt (.string k)).run P w=.ok () w:=by
 have:∀ n,(Instr.checkKey e (n+1) kt (.string k)).run P w=.ok () w:=fun n=>by
  unfold Instr.checkKey;simp only [Sem.run_bind,run_underlying hd,Result.andThen];rfl
 exact this 9999
theorem find_run {kt:TypeId} {k:Value} {l:List MapEntry} {r:Option (Nat×Value)} (hd:P.underlying kt=some .string) (h:Instr.findNow .string k l 0=some r):(Instr.findKey kt k l).run P w=.ok r w:=by
 simp [Instr.findKey,run_underlying hd,Result.andThen,h]
theorem done_makeMap (hf:Fr s a w S γ) {t:TypeId} (ho:op.op=.makeMap t none) :
    Done w S γ s.o s.nk ((execOp a.eval op).run P w) (.raw s.nk) (upd s.o s.nk (some (.raw (setOb [])))) (s.nk+1):=by
  obtain ⟨k1,k2⟩:=hf.sto.new_raw (setO []) (setOb []) (alloc_new _ _) (v:=.map (some w.heap.size)) rfl;refine ⟨.map (some w.heap.size),_,S,_,.inl ?_,k1,k2,.raw _ _ fun ob hob=>(upd_same _ _ _).symm,Nat.lt_succ_self _⟩;simp [execOp,ho,Instr.makeMap,setO,mapEs]
theorem done_lookup (hΘ:TabOk P Θ) (hf:Fr s a w S γ) {t kt e:TypeId} {m x:Operand} {i j je:TI} {q:Nat} {ks:List (List UInt8)} {k:List UInt8} (ho:op.op=.lookup t m x false) (hi:Θ t=some i) (hk:i.k=.map kt e) (hj:Θ kt=some j) (hjk:j.k=.str)
    (he:Θ e=some je) (hz:je.z=some [.bool false]) (hag:je.k=.bool) (hm:ev s.sl m=.raw q) (hq:s.o q=some (.raw (setOb ks))) (hx:ev s.sl x=.d (.str k)):Done w S γ s.o s.nk ((execOp a.eval op).run P w) (.d (.bool (decide (k∈ks)))) s.o s.nk:=by
  have h1:=hf.ev m;have h2:=hf.ev x;rw [hm] at h1;rw [hx] at h2;generalize hu:a.eval m=um at h1;generalize hv:a.eval x=ux at h2;obtain ⟨g,h3,h4⟩:=(hf.sto.raw q _ hq).out;have h4:w.heap[g]?=some (setO ks):=h4;have hγ:γ q=.map (some g):=h3;obtain ⟨z1,_,_⟩:=(hΘ e je he).z _ hz;rw [hag] at z1;obtain ⟨tx,htx,_⟩:=(hΘ e je he).info;have hzv:tx.zero=some (.bool false):=by simpa [htx,zvOf,D.zv,TK.agg] using z1
  cases h1 with
  | raw _ _ hr=>
    have:=hr _ hq;rw [hγ] at this;subst this;cases h2 with
    | d _ _ hr=>cases hr with
      | str=>
        refine Done.now hf.sto (u:=.bool (decide (k∈ks))) ?_ (.d _ _ (.bool _)) trivial;have hrun:(execOp a.eval op).run P w=((Instr.lookup t (.map (some g)) (.string ⟨k.toArray⟩) false).run P w).andThen fun u w'=>.ok (.value u) w':=by simp [execOp,ho,hu,hv]
        rw [hrun];have hgo:(getObj g).run P w=.ok (setO ks) w:=by simp [getObj,Sem.run,h4];rfl
        have hkt:=(hΘ kt j hj).str hjk;unfold Instr.lookup;simp only [Sem.run_bind,run_underlying ((hΘ t i hi).map hk),Result.andThen_ok,hgo,setO,Sem.run_pure,check_str hkt];by_cases hin:k∈ks
        · obtain ⟨jj,hjj⟩:=find_in ks 0 0 hin;simp [find_run hkt hjj,hin]
        · simp [find_run hkt (find_not ks 0 0 hin),hin,zeroValue,typeInfo,htx,hzv]
theorem done_mapUpdate (hΘ:TabOk P Θ) (hf:Fr s a w S γ) {t kt e:TypeId} {m x y:Operand} {i j:TI} {q:Nat} {ks:List (List UInt8)} {k:List UInt8} (ho:op.op=.mapUpdate t m x y) (hi:Θ t=some i) (hk:i.k=.map kt e) (hj:Θ kt=some j) (hjk:j.k=.str)
    (hm:ev s.sl m=.raw q) (hq:s.o q=some (.raw (setOb ks))) (hx:ev s.sl x=.d (.str k)) (hy:ev s.sl y=.d (.bool true)) (hin:k ∉ ks):Done w S γ s.o s.nk ((execOp a.eval op).run P w) .any (upd s.o q (some (.raw (setOb (ks++[k]))))) s.nk:=by
  have h1:=hf.ev m;have h2:=hf.ev x;have h2':=hf.ev y;rw [hm] at h1;rw [hx] at h2;rw [hy] at h2';generalize hu:a.eval m=um at h1;generalize hv:a.eval x=ux at h2;generalize hv':a.eval y=uy at h2';obtain ⟨g,h3,h4⟩:=(hf.sto.raw q _ hq).out;have h4:w.heap[g]?=some (setO ks):=h4;have hγ:γ q=.map (some g):=h3;cases h1 with
  | raw _ _ hr=>
    have:=hr _ hq;rw [hγ] at this;subst this;cases h2 with
    | d _ _ hr=>cases hr with
      | str=>cases h2' with
        | d _ _ hr=>cases hr with
          | bool=>
            obtain ⟨k1,k2⟩:=hf.sto.set_raw (w':={ w with heap:=w.heap.setIfInBounds g (setO (ks++[k])) }) (ob:=setOb (ks++[k])) (by rfl) hq (by rw [hγ];rfl)
              (by show (w.heap.setIfInBounds g _)[g]?=_;simp [(Array.getElem?_eq_some_iff.1 h4).1]) (fun j hj=>by simp [Array.getElem?_setIfInBounds_ne (Ne.symm hj)]) ⟨rfl,rfl,rfl,by simp⟩
            refine ⟨undef,_,S,γ,.inr ⟨?_,rfl⟩,k1,k2,.any _,trivial⟩;have hrun:(execOp a.eval op).run P w=((Instr.mapUpdate t (.map (some g)) (.string ⟨k.toArray⟩) (.bool true)).run P w).andThen fun _ w'=>.ok .skip w':=by simp [execOp,ho,hu,hv,hv']
            rw [hrun];have hgo:(getObj g).run P w=.ok (setO ks) w:=by simp [getObj,Sem.run,h4];rfl
            have hkt:=(hΘ kt j hj).str hjk;have hso:∀ ob,(setObj g ob).run P w=.ok () { w with heap:=w.heap.setIfInBounds g ob }:=fun ob=>by simp [setObj,Sem.run,h4];rfl
            have hpush:setO (ks++[k])=.map ((mapEs ks 0).toArray.push { key:=.string ⟨k.toArray⟩,val:=.bool true,born:=ks.length }) (ks.length+1):=by
              simp [setO,mapEs,List.zipIdx_append]
            unfold Instr.mapUpdate;simp only [Sem.run_bind,run_underlying ((hΘ t i hi).map hk),Result.andThen_ok,hgo,setO,check_str hkt,find_run hkt (find_not ks 0 0 hin)];rw [hso,← hpush];rfl
end
structure RowC (w:World) (S:Nat→Prop) (v:Value) (e:TypeId) (z:Nat) (xs:List D) (vs:List Value):Prop where
 len:vs.length=xs.length
 rd:∀ (i:Nat) (x:D) (u:Value),xs[i]?=some x→vs[i]?=some u→Rd w S x u
 sz:∀ (i:Nat) (u:Value),vs[i]?=some u→u.cells.size=z
 own:w.ownsRow 0 e z v xs.length (cellsOf vs)
theorem RowAt.get {w:World} {S:Nat→Prop} {v:Value} {e:TypeId} {z:Nat} {xs:List D} (h:RowAt w S v e z xs):∃ vs,RowC w S v e z xs vs:=by
 obtain ⟨vs,h1,h2,h3,h4⟩:=h.out;exact ⟨vs,h2,h3,h4,h1⟩
theorem RowC.at {w:World} {S:Nat→Prop} {v:Value} {e:TypeId} {z:Nat} {xs:List D} {vs:List Value} (h:RowC w S v e z xs vs):RowAt w S v e z xs:=⟨vs,h.own,h.len,h.rd,h.sz⟩
theorem cellsOf_take {z:Nat} {vs:List Value} (hz:∀ (i:Nat) (u:Value),vs[i]?=some u→u.cells.size=z) {k:Nat} (hk:k≤vs.length):(cellsOf (vs.take k)).length=k * z:=by
 rw [cellsOf_length (z:=z) (fun i u hu=>by
  rw [List.getElem?_take] at hu;split at hu
  ·exact hz i u hu
  ·cases hu)]
 simp [Nat.min_eq_left hk]
theorem cellsOf_at {z:Nat} {vs:List Value} (hz:∀ (i:Nat) (u:Value),vs[i]?=some u→u.cells.size=z) {i p:Nat} {u c:Value} (h1:vs[i]?=some u) (h2:u.cells[p]?=some c):(cellsOf vs)[i * z+p]?=some c:=by
 have hlt:i < vs.length:=(List.getElem?_eq_some_iff.1 h1).1;have e:vs=vs.take i++u :: vs.drop (i+1):=by
  have:vs[i]=u:=(List.getElem?_eq_some_iff.1 h1).2;rw [← this,← List.drop_eq_getElem_cons hlt,List.take_append_drop]
 have hl:=cellsOf_take hz (k:=i) (by omega);rw [e,cellsOf_append,cellsOf_cons,List.getElem?_append_right (by omega),hl,Nat.add_sub_cancel_left];have:p < u.cells.toList.length:=by
  rw [Array.length_toList];exact (Array.getElem?_eq_some_iff.1 h2).1
 rw [List.getElem?_append_left this];simpa using h2
theorem RowC.blk {w:World} {S:Nat→Prop} {v:Value} {e:TypeId} {z:Nat} {xs:List D} {vs:List Value} (h:RowC w S v e z xs vs):(v=.slice none 0 0∧xs=[])∨
    ∃ g cap cur,v=.slice (some ⟨g,0,none⟩) xs.length cap∧w.heap[g]?=some (.cells cur e (0,0))∧xs.length≤cap∧cap≤maxLen∧cur.size=cap * z∧cur.toList.take (xs.length * z)=cellsOf vs:=by
  rcases h.own.2 with ⟨h1,h2⟩ | ⟨g,cap,cur,h1,_,h3,h4,h5,h6,h7⟩
  · exact .inl ⟨h1,List.eq_nil_of_length_eq_zero h2⟩
  · exact .inr ⟨g,cap,cur,h1,h3,h4,h5,h6,h7⟩
theorem RowC.cell {w:World} {S:Nat→Prop} {e:TypeId} {z:Nat} {xs:List D} {vs:List Value} {g n cap:Nat} (h:RowC w S (.slice (some ⟨g,0,none⟩) n cap) e z xs vs) {i p:Nat} {u c:Value} (h1:vs[i]?=some u) (h2:u.cells[p]?=some c) :
    w.cell? ⟨g,i * z+p,none⟩=some c:=by
  have:=h.own.cells (g:=g) rfl _ _ (cellsOf_at h.sz h1 h2);rw [show (⟨g,i * z+p,none⟩:Addr)=(⟨g,0,none⟩:Addr).add (i * z+p) by unfold Addr.add;split <;> simp_all];exact this
theorem Sto.set_row {w w':World} {S:Nat→Prop} {γ:Nat→Value} {o:Nat→Option AO} {nk:Nat} (h:Sto w S γ o nk) {t g:Nat} {e:TypeId} {z:Nat} {xs0 xs:List D}
    (ht:o t=some (.row e z xs0)) (hg:blk (γ t)=some g) (hw:RowAt w' S (γ t) e z xs) (hoth:∀ k,k≠g→w'.heap[k]?=w.heap[k]?)
    (hsame:w'.os=w.os∧w'.tape=w.tape∧w'.output=w.output∧w'.heap.size=w.heap.size) :
    Sto w' S γ (upd o t (some (.row e z xs))) nk∧Tr w S γ o nk w' S γ (upd o t (some (.row e z xs))) nk:=by
  have hSg:∀ k,S k→k≠g:=fun k hk e=>(h.away t _ g ht hg).1 (e ▸ hk);have hup:∀ u x,upd o t (some (.row e z xs)) u=some x→∃ y,o u=some y∧AO.kin y x:=by
    intro u x hx;unfold upd at hx;split at hx
    · rename_i he;subst he;simp only [Option.some.injEq] at hx;subst hx;exact ⟨_,ht,rfl,rfl⟩
    · exact ⟨x,hx,AO.kin_refl x⟩
  have hkeys:∀ u x,u < nk→upd o t (some (.row e z xs)) u=some x→∃ y,o u=some y∧AO.kin y x∧γ u=γ u:=fun u x _ hx=>by
    obtain ⟨y,h1,h2⟩:=hup u x hx;exact ⟨y,h1,h2,rfl⟩
  have hne:∀ u x b,u≠t→o u=some x→Abs.blk (γ u)=some b→b≠g:=fun u x b hu hx hb e=>h.apart u t x _ g hu hx ht (e ▸ hb) hg;refine ⟨⟨fun k hk=>by rw [hsame.2.2.2];exact h.s_lt k hk,fun u x hx=>?_,fun u cs' hc=>?_,fun u e' z' ys hx=>?_,fun u ob' hx=>?_,fun u x b hx hb=>?_,fun u u' x x' b hne hx hx' hb hb'=>?_⟩,
    ⟨hsame.1,hsame.2.1,hsame.2.2.1,Nat.le_of_eq hsame.2.2.2.symm,Nat.le_refl _,fun k hk hn=>hoth k fun e=>hn ⟨t,_,ht,by rw [hg,e]⟩,fun _ h=>h,fun _ h=>.inl h,?_,hkeys⟩⟩
  · obtain ⟨y,h1,_⟩:=hup u x hx;exact h.o_lt u y h1
  · have hu:u≠t:=fun e=>by subst e;rw [upd_same] at hc;cases hc
    rw [upd_ne _ _ hu] at hc;obtain ⟨⟨g',arr',ty',h4,h5,h6,h7⟩,hl'⟩:=h.box u cs' hc;exact ⟨⟨g',arr',ty',h4,by rw [hoth g' (hne u _ g' hu hc (by rw [h4];rfl))];exact h5,h6,fun i c v h1 h2=>(h7 i c v h1 h2).move (fun _ h=>h) (fun k hk=>hoth k (hSg k hk)) hkeys (lts_get hl' i c h1)⟩,hl'⟩
  · by_cases hu:u=t
    · subst hu;rw [upd_same] at hx;simp only [Option.some.injEq,AO.row.injEq] at hx;obtain ⟨rfl,rfl,rfl⟩:=hx;exact hw
    · rw [upd_ne _ _ hu] at hx;obtain ⟨vs,h1,h2,h3,h4⟩:=(h.row u e' z' ys hx).out;refine ⟨vs,⟨h1.1,?_⟩,h2,fun i x v h5 h6=>(h3 i x v h5 h6).mono (fun _ h=>h) (fun k hk=>hoth k (hSg k hk)),h4⟩;rcases h1.2 with h5 | ⟨b,cap,cur,h5,h6,h7,h8⟩
      · exact .inl h5
      · exact .inr ⟨b,cap,cur,h5,h6,by rw [hoth b (hne u _ b hu hx (by rw [h5];rfl))];exact h7,h8⟩
  · have hu:u≠t:=fun e=>by subst e;rw [upd_same] at hx;cases hx
    rw [upd_ne _ _ hu] at hx;exact (h.raw u ob' hx).kept (fun _ h=>h) (fun k hk=>hoth k (hSg k hk)) fun b hb=>hoth b (hne u _ b hu hx hb)
  · obtain ⟨y,h1,_⟩:=hup u x hx;have:=h.away u y b h1 hb;exact ⟨this.1,by rw [hsame.2.2.2];exact this.2⟩
  · obtain ⟨y,h1,_⟩:=hup u x hx;obtain ⟨y',h1',_⟩:=hup u' x' hx';exact h.apart u u' y y' b hne h1 h1' hb hb'
  · rintro b ⟨u,x,hx,hb⟩;obtain ⟨y,h1,_⟩:=hup u x hx;exact .inr ⟨u,y,h1,hb⟩
theorem setM_list:∀ (vs:List Value) (arr:Array Value) (o:Nat),o+vs.length≤arr.size→(setM arr o vs).toList=arr.toList.take o++vs++arr.toList.drop (o+vs.length):=by
 intro vs arr o hle;apply List.ext_getElem?;intro i;have h1:(setM arr o vs).toList[i]?=(setM arr o vs)[i]?:=by simp
 rw [h1,setM_get vs arr o i hle];have hlen:(arr.toList.take o).length=o:=by simp;omega
 by_cases ha:i < o
 ·rw [if_neg (by omega),List.append_assoc,List.getElem?_append_left (by omega),List.getElem?_take,if_pos ha];simp
 ·by_cases hb:i < o+vs.length
  ·rw [if_pos (by omega),List.append_assoc,List.getElem?_append_right (by omega),hlen,List.getElem?_append_left (by omega)]
  ·rw [if_neg (by omega),List.getElem?_append_right (by simp;omega),List.getElem?_drop];simp only [List.length_append,hlen];rw [show o+vs.length+(i - (o+vs.length))=i by omega];simp
theorem RowC.write {w:World} {S:Nat→Prop} {γ:Nat→Value} {o:Nat→Option AO} {nk:Nat} (hs:Sto w S γ o nk) {t g:Nat} {e:TypeId} {z cap:Nat} {xs ys:List D} {vs us vals:List Value} (ht:o t=some (.row e z xs)) (hγ:γ t=.slice (some ⟨g,0,none⟩) xs.length cap)
    (h:RowC w S (γ t) e z xs vs) {a f:Nat} (hle:a+us.length≤xs.length) (hy:us.length=ys.length) (hr:∀ (i:Nat) (x:D) (u:Value),ys[i]?=some x→us[i]?=some u→Rd w S x u) (hz:∀ (i:Nat) (u:Value),us[i]?=some u→u.cells.size=z)
    (hc:cellsOf us=(cellsOf ((vs.drop a).take us.length)).take f++vals++(cellsOf ((vs.drop a).take us.length)).drop (f+vals.length)) (hf:f+vals.length≤us.length * z) (h1:∀ v∈vals,v.oneCell'=true) (P:Program) :
    (storeCells ⟨g,a * z+f,none⟩ vals).run P w=.ok () (w.setCells g (a * z+f) vals)∧
    Sto (w.setCells g (a * z+f) vals) S γ (upd o t (some (.row e z (xs.take a++ys++xs.drop (a+ys.length))))) nk∧Tr w S γ o nk (w.setCells g (a * z+f) vals) S γ (upd o t (some (.row e z (xs.take a++ys++xs.drop (a+ys.length))))) nk:=by
  have hvl:=h.len;rcases h.blk with ⟨h0,_⟩ | ⟨g',cap',cur,k1,k2,k3,k4,k5,k6⟩
  · rw [hγ] at h0;cases h0
  · rw [hγ] at k1;simp only [Value.slice.injEq,Option.some.injEq,Addr.mk.injEq,and_true,true_and] at k1;obtain ⟨rfl,rfl⟩:=k1;have hmul:(a+us.length) * z=a * z+us.length * z:=Nat.add_mul _ _ _;have hm2:(a+us.length) * z≤xs.length * z:=Nat.mul_le_mul_right z hle;have hm3:xs.length * z≤cap * z:=Nat.mul_le_mul_right z k3;have hsz:a * z+f+vals.length≤cur.size:=by omega
    have hrun:(storeCells ⟨g,a * z+f,none⟩ vals).run P w=.ok () (w.setCells g (a * z+f) vals):=by
      have:=run_storeCells_cells (P:=P) g (a * z+f) vals 0 w (fun j hj=>by
        rw [cell_at k2,Array.getElem?_eq_getElem (show a * z+f+0+j < cur.size by omega)];rfl) (fun j hj=>by simp [World.frozen?,k2]) h1
      simpa using this
    have hhp:=setCells_heap (g:=g) vals (a * z+f) w cur k2;have hsplit:vs=vs.take a++((vs.drop a).take us.length++vs.drop (a+us.length)):=by
      rw [← List.drop_drop,List.take_append_drop,List.take_append_drop]
    have hA:(cellsOf (vs.take a)).length=a * z:=cellsOf_take h.sz (by omega);have hB:(cellsOf ((vs.drop a).take us.length)).length=us.length * z:=by
      rw [cellsOf_length (z:=z) (fun i u hu=>by
        rw [List.getElem?_take] at hu;split at hu
        · rw [List.getElem?_drop] at hu;exact h.sz _ u hu
        · cases hu)]
      congr 1;simp;omega
    have hCl:(cellsOf (vs.drop (a+us.length))).length=(xs.length - (a+us.length)) * z:=by
      rw [cellsOf_length (z:=z) (fun i u hu=>by rw [List.getElem?_drop] at hu;exact h.sz _ u hu)];simp [hvl]
    have hn:xs.length * z=a * z+(us.length * z+(xs.length - (a+us.length)) * z):=by
      rw [← Nat.add_mul,← Nat.add_mul];congr 1;omega
    have hnew:∀ (R:List Value),cur.toList=cellsOf vs++R→(setM cur (a * z+f) vals).toList=cellsOf (vs.take a++us++vs.drop (a+us.length))++R:=by
      intro R hR;rw [setM_list _ _ _ (by omega),hR,hsplit];simp only [cellsOf_append,hc];rw [← hsplit];generalize cellsOf (vs.take a)=A at *;generalize cellsOf ((vs.drop a).take us.length)=B at *;generalize cellsOf (vs.drop (a+us.length))=C at *;have e1:(A++(B++C)++R).take (a * z+f)=A++B.take f:=by
        rw [List.append_assoc,List.take_append,List.take_of_length_le (by omega),hA,Nat.add_sub_cancel_left,List.append_assoc,List.take_append_of_le_length (by omega)]
      have e2:(A++(B++C)++R).drop (a * z+f+vals.length)=B.drop (f+vals.length)++C++R:=by
        rw [List.append_assoc,List.drop_append,List.drop_eq_nil_of_le (by omega),hA,show a * z+f+vals.length - a * z=f+vals.length by omega,List.append_assoc,List.drop_append_of_le_length (by omega)];simp
      rw [e1,e2];simp [List.append_assoc]
    have hcur:cur.toList=cellsOf vs++cur.toList.drop (xs.length * z):=by rw [← k6,List.take_append_drop]
    have hoth:∀ k,k≠g→(w.setCells g (a * z+f) vals).heap[k]?=w.heap[k]?:=fun k hk=>setCells_other hk _ _ _;have hSg:∀ k,S k→k≠g:=fun k hk e=>(hs.away t _ g ht (by rw [hγ];rfl)).1 (e ▸ hk);have hmono:∀ {x:D} {v:Value},Rd w S x v→Rd (w.setCells g (a * z+f) vals) S x v:=fun hx=>hx.mono (fun _ h=>h) fun k hk=>hoth k (hSg k hk);have hnl:(xs.take a++ys++xs.drop (a+ys.length)).length=xs.length:=by simp;omega
    have hR:RowAt (w.setCells g (a * z+f) vals) S (γ t) e z (xs.take a++ys++xs.drop (a+ys.length)):=by
      refine ⟨vs.take a++us++vs.drop (a+us.length),?_,by simp;omega,fun i x u q1 q2=>?_,fun i u q2=>?_⟩
      · rw [hnl,hγ];have hl2:(cellsOf (vs.take a++us++vs.drop (a+us.length))).length=xs.length * z:=by
          simp only [cellsOf_append,List.length_append,hA,hCl,cellsOf_length hz];omega
        refine ⟨hl2,.inr ⟨g,cap,_,rfl,Nat.zero_le _,hhp,k3,k4,by rw [setM_size];exact k5,?_⟩⟩;rw [hnew _ hcur,List.take_append_of_le_length (by omega),List.take_of_length_le (by omega)]
      · by_cases hi1:i < a
        · rw [List.append_assoc,List.getElem?_append_left (by simp;omega),List.getElem?_take,if_pos hi1] at q1 q2;exact hmono (h.rd i x u q1 q2)
        · by_cases hi2:i < a+us.length
          · rw [List.append_assoc,List.getElem?_append_right (by simp;omega),List.getElem?_append_left (by simp;omega)] at q1 q2;simp only [List.length_take,Nat.min_eq_left (show a≤xs.length by omega)] at q1;simp only [List.length_take,Nat.min_eq_left (show a≤vs.length by omega)] at q2;exact hmono (hr _ x u q1 q2)
          · rw [List.getElem?_append_right (by simp;omega),List.getElem?_drop] at q1 q2;simp only [List.length_append,List.length_take,Nat.min_eq_left (show a≤xs.length by omega)] at q1;simp only [List.length_append,List.length_take,Nat.min_eq_left (show a≤vs.length by omega)] at q2;rw [show a+ys.length+(i - (a+ys.length))=i by omega] at q1;rw [show a+us.length+(i - (a+us.length))=i by omega] at q2;exact hmono (h.rd i x u q1 q2)
      · by_cases hi1:i < a
        · rw [List.append_assoc,List.getElem?_append_left (by simp;omega),List.getElem?_take,if_pos hi1] at q2;exact h.sz i u q2
        · by_cases hi2:i < a+us.length
          · rw [List.append_assoc,List.getElem?_append_right (by simp;omega),List.getElem?_append_left (by simp;omega)] at q2;exact hz _ u q2
          · rw [List.getElem?_append_right (by simp;omega),List.getElem?_drop] at q2;exact h.sz _ u q2
    obtain ⟨m1,m2⟩:=hs.set_row ht (by rw [hγ];rfl) hR hoth (setCells_same g _ _ _);exact ⟨hrun,m1,m2⟩
def D.at (f sz:Nat) (ag:Bool) (x:D):Option D:=if f=0∧x.leaf=!ag∧x.width=sz then some x else match x.sub f sz ag with
 | some y=>if y.leaf=!ag∧y.width=sz then some y else none
 | none=>none
def D.put (f:Nat) (ys:List D):D→Option D
 | .agg cs=>if f+ys.length≤cs.length∧ys.all D.leaf=true then some (.agg (cs.take f++ys++cs.drop (f+ys.length))) else none
 | _=>match f,ys with
  | 0,[y]=>if y.leaf=true then some y else none
  | _,_=>none
def viewOf (o:Nat→Option AO) (z:Nat):SV→Option (Nat×Nat×Nat×VC×List D)
 | .row q=>match o q with
  | some (.row _ z' xs)=>if z'=z then some (q,0,xs.length,.full,xs) else none
  | _=>none
 | .view q l n c=>match o q with
  | some (.row _ z' xs)=>if z'=z∧l+n≤xs.length then some (q,l,n,c,xs) else none
  | _=>none
 | _=>none
theorem viewOf_ok {w:World} {S:Nat→Prop} {γ:Nat→Value} {o:Nat→Option AO} {nk:Nat} (hs:Sto w S γ o nk) {z q l n:Nat} {k:VC} {xs:List D} {c:SV} {v:Value} (h:SR w S γ o c v) (hv:viewOf o z c=some (q,l,n,k,xs)) :
    ∃ e,o q=some (.row e z xs)∧VW z l n k (γ q) v∧l+n≤xs.length:=by
  unfold viewOf at hv;split at hv
  · split at hv
    · rename_i e z' ys ho;split at hv
      · rename_i hz;subst hz;simp only [Option.some.injEq,Prod.mk.injEq] at hv;obtain ⟨rfl,rfl,rfl,rfl,rfl⟩:=hv;refine ⟨e,ho,?_,by omega⟩;cases h with
        | row _ _ hr=>
          obtain rfl:=hr _ _ _ ho;obtain ⟨vs,hR⟩:=(hs.row _ _ _ _ ho).get;rcases hR.blk with ⟨h1,rfl⟩ | ⟨g,cap,cur,h1,_,h3,_⟩
          · exact .inl ⟨h1,h1,rfl,rfl⟩
          · exact .inr ⟨g,_,cap,cap,h1,h3,by omega,fun _=>by omega,fun h=>(by cases h),.inl (by rw [h1];simp)⟩
      · cases hv
    · cases hv
  · split at hv
    · rename_i e z' ys ho;split at hv
      · rename_i hz;obtain ⟨rfl,hle⟩:=hz;simp only [Option.some.injEq,Prod.mk.injEq] at hv;obtain ⟨rfl,rfl,rfl,rfl,rfl⟩:=hv;refine ⟨e,ho,?_,hle⟩;cases h with
        | view _ _ _ _ _ hr=>exact hr _ _ _ ho
      · cases hv
    · cases hv
  · cases hv
theorem vw_blk {z l n:Nat} {c:VC} {u v:Value} (h:VW z l n c u v) (hn:0 < n):∃ g m k p,u=.slice (some ⟨g,0,none⟩) m k∧v=.slice (some ⟨g,l * z,none⟩) n p:=by
 rcases h with ⟨_,_,_,rfl⟩ | ⟨g,m,k,p,h1,h2,_,_,_,h5 | ⟨h5,_⟩⟩
 ·omega
 ·exact ⟨g,m,k,p,h1,h5⟩
 ·omega
theorem vw_len {z l n:Nat} {c:VC} {u v:Value} (h:VW z l n c u v):∃ A k,v=.slice A n k:=by
 rcases h with ⟨_,rfl,_,rfl⟩ | ⟨g,m,k,p,h1,h2,_,_,_,rfl | ⟨h5,f,_,rfl⟩⟩
 ·exact ⟨_,_,rfl⟩
 ·exact ⟨_,_,rfl⟩
 ·have:n=0:=by omega
  subst this;exact ⟨_,_,rfl⟩
section
variable {w:World} {S:Nat→Prop} {γ:Nat→Value}
def srcN (o:Nat→Option AO) (z:Nat):SV→Option (List D)
 | .d .nil=>some []
 | .d (.sl z' ys)=>if z'=z then some ys else none
 | .dx z' ys=>if z'=z then some ys else none
 | c=>match viewOf o z c with
  | some (_,l,n,_,xs)=>some ((xs.drop l).take n)
  | none=>none
theorem srcN_ok {o:Nat→Option AO} {nk:Nat} (hs:Sto w S γ o nk) {c:SV} {v:Value} {z:Nat} {ys:List D} (h:SR w S γ o c v) (hc:srcN o z c=some ys):Src w S v z ys:=by
 unfold srcN at hc;split at hc
 ·exact src_of hs h hc
 ·exact src_of hs h hc
 ·rename_i z' ys';cases h with
  | dx _ _ _ hr _=>exact src_of (γ:=γ) (o:=o) hs (SR.d _ _ hr) (by simpa [srcOf] using hc)
 ·split at hc
  ·rename_i q l n k xs hv;simp only [Option.some.injEq] at hc;subst hc;obtain ⟨e,ho,hvw,hle⟩:=viewOf_ok hs h hv;obtain ⟨vs,hR⟩:=(hs.row _ _ _ _ ho).get;have hvl:=hR.len;have hl:((vs.drop l).take n).length=n:=by simp;omega
   have hidx:∀ {α:Type} (xs:List α) (i:Nat) (x:α),((xs.drop l).take n)[i]?=some x→xs[l+i]?=some x:=fun xs i x h=>by
    rw [List.getElem?_take] at h;split at h
    ·rwa [List.getElem?_drop] at h
    ·cases h
   refine ⟨(vs.drop l).take n,by simp [hvl],fun i x u h1 h2=>hR.rd _ _ _ (hidx _ _ _ h1) (hidx _ _ _ h2),fun i u h2=>hR.sz _ _ (hidx _ _ _ h2),?_,?_⟩
   ·by_cases hn:n=0
    ·subst hn;obtain ⟨A,k,rfl⟩:=vw_len hvw;cases A with
     | none=>exact .inl ⟨_,rfl,by simp⟩
     | some A=>exact .inr ⟨A,k,by simp,by simp [cellsOf]⟩
    ·obtain ⟨g,m,k0,p,hu,rfl⟩:=vw_blk hvw (by omega);rw [hu] at hR;refine .inr ⟨⟨g,l * z,none⟩,p,by rw [hl],fun pp u hp=>?_⟩;obtain ⟨i,jj,u',k1,k2,rfl⟩:=cellsOf_get (fun i u h2=>hR.sz _ _ (hidx _ _ _ h2)) pp u hp;have:=hR.cell (hidx _ _ _ k1) k2;rw [Addr.add_mid,← Nat.add_assoc,← Nat.add_mul];exact this
   ·have:xs.length≤9223372036854775807:=by
     rcases hR.blk with ⟨_,h2⟩ | ⟨g',cap,cur,h2,_,h3,h4,_⟩
     ·subst h2;simp
     ·simp only [maxLen] at h4;omega
    omega
  ·cases hc
end
def vbnd (n b:Nat) (lo hi mx:Option SV):Option (Nat×Nat×Option Nat):=
  match (match mx with
    | none=>some none
    | some x=>(bnd b x).map some) with
  | none=>none
  | some m=>match (match hi,m with
      | none,none=>some n
      | none,some _=>none
      | some x,none=>bnd b x
      | some x,some k=>bnd k x) with
    | none=>none
    | some h=>match (match lo with
        | none=>some 0
        | some x=>bnd h x) with
      | none=>none
      | some l=>some (l,h,m)
theorem run_vbnd {P:Program} {w:World} {S:Nat→Prop} {γ:Nat→Value} {o:Nat→Option AO} {n b cap l h:Nat} {m:Option Nat} {lo hi mx:Option SV} {vl vh vm:Option Value} (h1:BV w S γ o lo vl) (h2:BV w S γ o hi vh) (h3:BV w S γ o mx vm)
    (hnb:n≤b) (hbc:b≤cap) (hb:vbnd n b lo hi mx=some (l,h,m)) :
    ∃ m',(Instr.sliceBounds true n cap vl vh vm).run P w=.ok (l,h,m') w∧l≤h∧h≤m'∧m'≤cap∧h≤b∧(m=none→m'=cap)∧∀ k,m=some k→m'=k:=by
  unfold vbnd at hb;split at hb
  · cases hb
  · rename_i m0 hm0;split at hb
    · cases hb
    · rename_i h0 hh0;split at hb
      · cases hb
      · rename_i l0 hl0;simp only [Option.some.injEq,Prod.mk.injEq] at hb;obtain ⟨rfl,rfl,rfl⟩:=hb;cases mx with
        | none=>
          cases vm with
          | some v=>exact h3.elim
          | none=>
            simp only [Option.some.injEq] at hm0;subst hm0;cases hi with
            | none=>
              cases vh with
              | some v=>exact h2.elim
              | none=>
                simp only [Option.some.injEq] at hh0;subst hh0;cases lo with
                | none=>
                  cases vl with
                  | some v=>exact h1.elim
                  | none=>
                    simp only [Option.some.injEq] at hl0;subst hl0;exact ⟨cap,by simp [Instr.sliceBounds],Nat.zero_le _,by omega,Nat.le_refl _,hnb,fun _=>rfl,by simp⟩
                | some c=>
                  cases vl with
                  | none=>exact h1.elim
                  | some v=>
                    simp only at hl0;have hr:=fun code=>run_bnd (P:=P) (code:=code) h1 hl0 (Nat.le_refl _);exact ⟨cap,by simp [Instr.sliceBounds,(hr _).1],(hr .sliceB).2,by omega,Nat.le_refl _,hnb,fun _=>rfl,by simp⟩
            | some d=>
              cases vh with
              | none=>exact h2.elim
              | some u=>
                simp only at hh0;have hr2:=fun code=>run_bnd (P:=P) (code:=code) h2 hh0 hbc;have hle:=(hr2 .sliceB).2;cases lo with
                | none=>
                  cases vl with
                  | some v=>exact h1.elim
                  | none=>
                    simp only [Option.some.injEq] at hl0;subst hl0;exact ⟨cap,by simp [Instr.sliceBounds,(hr2 _).1],Nat.zero_le _,by omega,Nat.le_refl _,hle,fun _=>rfl,by simp⟩
                | some c=>
                  cases vl with
                  | none=>exact h1.elim
                  | some v=>
                    simp only at hl0;have hr:=fun code=>run_bnd (P:=P) (code:=code) h1 hl0 (Nat.le_refl _);exact ⟨cap,by simp [Instr.sliceBounds,(hr _).1,(hr2 _).1],(hr .sliceB).2,by omega,Nat.le_refl _,hle,fun _=>rfl,by simp⟩
        | some c0=>
          cases vm with
          | none=>exact h3.elim
          | some vb=>
            simp only at hm0;obtain ⟨k,hk,rfl⟩:=Option.map_eq_some_iff.1 hm0;have hr3:=fun code=>run_bnd (P:=P) (code:=code) h3 hk hbc;have hkb:=(hr3 .sliceB).2;cases hi with
            | none=>simp at hh0
            | some d=>
              cases vh with
              | none=>exact h2.elim
              | some u=>
                simp only at hh0;have hr2:=fun code=>run_bnd (P:=P) (code:=code) h2 hh0 (Nat.le_refl _);have hle:=(hr2 .sliceB).2;cases lo with
                | none=>
                  cases vl with
                  | some v=>exact h1.elim
                  | none=>
                    simp only [Option.some.injEq] at hl0;subst hl0;exact ⟨k,by simp [Instr.sliceBounds,(hr2 _).1,(hr3 _).1],Nat.zero_le _,hle,by omega,by omega,by simp,by simp⟩
                | some c=>
                  cases vl with
                  | none=>exact h1.elim
                  | some v=>
                    simp only at hl0;have hr:=fun code=>run_bnd (P:=P) (code:=code) h1 hl0 (Nat.le_refl _);exact ⟨k,by simp [Instr.sliceBounds,(hr _).1,(hr2 _).1,(hr3 _).1],(hr .sliceB).2,hle,by omega,by omega,by simp,by simp⟩
def eqK:D→D→Bool
 | .str x,.str y=>decide (x=y)
 | .int _ x,.int _ y=>decide (x=y)
 | _,_=>false
def kfind (k:D):List (D×D)→Nat→Option (Nat×D)
 | [],_=>none
 | (a,v) :: r,i=>match eqK k a with
  | true=>some (i,v)
  | false=>kfind k r (i+1)
def keyK (k:TK) (x:D):Bool:=
 match k,x with
 | .str,.str _=>true
 | .int a,.int b _=>decide (a=b)
 | _,_=>false
def keysOk (k:TK) (x:D) (kvs:List (D×D)):Bool:=keyK k x && kvs.all fun p=>keyK k p.1
def zD (i:TI):Option D:=
 match i.z with
 | some l=>if i.k.agg=true then some (.agg l) else match l with
  | [d]=>some d
  | _=>none
 | none=>none
def mapOf (o:Nat→Option AO):SV→Option (List (D×D))
 | .raw q=>match o q with
  | some (.raw (.map kvs))=>some kvs
  | _=>none
 | .d (.nilk 0)=>some []
 | _=>none
def VC.cap (c:VC) (a n:Nat):Nat:=
 match c with
 | .full=>a
 | _=>n
def VC.cut (c:VC) (h:Nat):Option Nat→VC
 | none=>match c with
  | .full=>.full
  | _=>.unk
 | some k=>if k=h then .exact else .unk
def seqC (o:Nat→Option AO):Nat→List (Nat×SV)→Option (List SV)
  | _,[]=>some []
  | k,(i,c) :: r=>if i=k∧oneC o c=true then match seqC o (k+1) r with
      | some cs=>some (c :: cs)
      | none=>none
    else none
def eqV (k:TK) (x y:D):Option Bool:=
 match k,x,y with
 | .int _,.int a m,.int b n=>if a=b then some (decide (m=n)) else none
 | .bool,.bool a,.bool b=>some (a == b)
 | .str,.str a,.str b=>some (decide (a=b))
 | _,_,_=>none
def eqFs (Θ:Tab) (xs ys:List D):List (Nat×Nat)→Option Bool
 | []=>some true
 | (off,ft) :: r=>match Θ ft,xs[off]?,ys[off]? with
  | some j,some x,some y=>match eqV j.k x y,eqFs Θ xs ys r with
   | some p,some q=>some (p && q)
   | _,_=>none
  | _,_,_=>none
def fillS (place:Nat→Option (Nat×Nat)) (o:Nat→Option AO):List (Nat×SV)→List SV→Option (List SV)
 | [],cs=>some cs
 | (i,c) :: r,cs=>match place i,c.cells o with
  | some (off,size),some ys=>if ys.length=size∧off+size≤cs.length then fillS place o r (cs.take off++ys++cs.drop (off+size)) else none
  | _,_=>none
def nQ (Θ:Tab) (op:Op) (ev:Operand→SV) (o:Nat→Option AO):Option SV:=
  match op with
  | .load t x=>match Θ t,ev x with
    | some i,.rel q j f=>match o q with
      | some (.row _ _ xs)=>match xs[j]? with
        | some x=>(x.at f i.sz i.k.agg).map .d
        | none=>none
      | _=>none
    | _,_=>none
  | .nilCheck x=>match ev x with
    | .rel q j f=>match o q with
      | some (.row _ _ _)=>some (.rel q j f)
      | _=>none
    | _=>none
  | .build t parts=>match Θ t with
    | some i=>match i.k with
      | .arr n e=>match Θ e,i.z with
        | some j,some l=>match fillL (fun q=>some (q * j.sz,j.sz)) l (parts.toList.map fun p=>(p.1,ev p.2)) with
          | some ds=>some (.d (.agg ds))
          | none=>if j.sz=1∧l.length=n then match seqC o 0 (parts.toList.map fun p=>(p.1,ev p.2)) with
              | some cs=>if cs.length=n then some (.ag cs) else none
              | none=>none
            else none
        | _,_=>none
      | .struct fs=>match i.z with
        | some l=>match fillL (placeOf Θ fs) l (parts.toList.map fun p=>(p.1,(ev p.2).soft)) with
          | some ds=>some (.d (.agg ds))
          | none=>(fillS (placeOf Θ fs) o (parts.toList.map fun p=>(p.1,(ev p.2).soft)) (l.map .d)).map .ag
        | none=>none
      | _=>none
    | none=>none
  | .slice t x lo hi mx=>match Θ t with
    | some i=>match i.k with
      | .slice e=>match Θ e with
        | some j=>match viewOf o j.sz (ev x) with
          | some (q,l,n,c,xs)=>match vbnd n (c.cap (xs.length - l) n) (lo.map ev) (hi.map ev) (mx.map ev) with
            | some (l',h,m)=>some (.view q (l+l') (h - l') (c.cut h m))
            | none=>none
          | none=>match ev x with
            | .d (.sl z xs)=>if z=j.sz then match vbnd xs.length xs.length (lo.map ev) (hi.map ev) (mx.map ev) with
                | some (l',h,some k)=>if k=h then some (.dx z ((xs.take h).drop l')) else none
                | _=>none
              else none
            | .d .nil=>match vbnd 0 0 (lo.map ev) (hi.map ev) (mx.map ev) with
              | some _=>some (.d .nil)
              | none=>none
            | .dx z xs=>if z=j.sz then match vbnd xs.length xs.length (lo.map ev) (hi.map ev) (mx.map ev) with
                | some (l',h,_)=>some (.d (.sl z ((xs.take h).drop l')))
                | _=>none
              else none
            | _=>none
        | none=>none
      | _=>none
    | none=>none
  | .convert src dst x=>match Θ src,Θ dst with
    | some i,some j=>match i.k,j.k with
      | .slice e,.str=>match Θ e with
        | some je=>match je.k,(match ev x with
            | .dx z xs=>srcN o 1 (.dx z xs)
            | .view q l n c=>srcN o 1 (.view q l n c)
            | _=>none) with
          | .int .u8,some ys=>(byteL ys).map fun b=>.d (.str b)
          | _,_=>none
        | none=>none
      | _,_=>none
    | _,_=>none
  | .indexAddr t x ix=>match Θ t,ev ix with
    | some i,.d (.int _ m)=>match i.k with
      | .slice e=>match Θ e with
        | some j=>match ev x with
          | .view q l n c=>match viewOf o j.sz (.view q l n c) with
            | some _=>if 0≤m∧m.toNat < n then some (.rel q (l+m.toNat) 0) else none
            | none=>none
          | .dx z xs=>if z=j.sz∧0≤m then (xs[m.toNat]?).map .el else none
          | _=>none
        | none=>none
      | _=>none
    | _,_=>none
  | .call c=>match c.callee,c.args.toList,c.argTypes.toList with
    | .builtin .len,[x],[t]=>match Θ t with
      | some i=>match i.k,ev x with
        | .slice _,.view q l n k=>match o q with
          | some (.row _ _ _)=>some (.d (.int .i64 n))
          | _=>none
        | .slice _,.dx _ xs=>some (.d (.int .i64 xs.length))
        | .map _ _,x=>(mapOf o x).map fun kvs=>.d (.int .i64 kvs.length)
        | _,_=>none
      | none=>none
    | _,_,_=>none
  | .index t x ix=>match Θ t,ev x,ev ix with
    | some i,.d (.agg xs),.d (.int _ m)=>match i.k with
      | .arr n e=>match Θ e with
        | some j=>if 0≤m∧m.toNat < n then ((D.agg xs).sub (m.toNat * j.sz) j.sz j.k.agg).map .d else none
        | none=>none
      | _=>none
    | some i,.ag cs,.d (.int _ m)=>match i.k with
      | .arr n e=>match Θ e with
        | some j=>if j.sz=1∧j.k.agg=false∧0≤m∧m.toNat < n then cs[m.toNat]? else none
        | none=>none
      | _=>none
    | _,_,_=>none
  | .binOp b t x y _=>match b,Θ t with
    | .eql,some i=>match i.k,ev x,ev y with
      | .fn,.clo _ _ _,.d (.nilk 1)=>some (.d (.bool false))
      | .fn,.d (.nilk 1),.d (.nilk 1)=>some (.d (.bool true))
      | .map _ _,.d (.nilk 0),.d (.nilk 0)=>some (.d (.bool true))
      | .map _ _,.raw q,.d (.nilk 0)=>match o q with
        | some (.raw (.map _))=>some (.d (.bool false))
        | _=>none
      | .struct fs,.d (.agg xs),.d (.agg ys)=>if i.eq=true then (eqFs Θ xs ys fs).map fun b=>.d (.bool (b)) else none
      | _,_,_=>none
    | .neq,some i=>match i.k,ev x,ev y with
      | .fn,.clo _ _ _,.d (.nilk 1)=>some (.d (.bool true))
      | .fn,.d (.nilk 1),.d (.nilk 1)=>some (.d (.bool false))
      | .map _ _,.d (.nilk 0),.d (.nilk 0)=>some (.d (.bool false))
      | .map _ _,.raw q,.d (.nilk 0)=>match o q with
        | some (.raw (.map _))=>some (.d (.bool true))
        | _=>none
      | .struct fs,.d (.agg xs),.d (.agg ys)=>if i.eq=true then (eqFs Θ xs ys fs).map fun b=>.d (.bool (!b)) else none
      | _,_,_=>none
    | _,_=>none
  | .field t x f=>match Θ t,ev x with
    | some i,.ag cs=>match i.k with
      | .struct fs=>match fs[f]? with
        | some (off,ft)=>match Θ ft with
          | some j=>if j.k.agg=true then (if off+j.sz≤cs.length then some (.ag ((cs.drop off).take j.sz)) else none) else cs[off]?
          | none=>none
        | none=>none
      | _=>none
    | _,_=>none
  | .lookup t m x b=>match Θ t with
    | some i=>match i.k with
      | .map kt e=>match Θ kt,Θ e with
        | some j,some je=>match mapOf o (ev m),ev x,zD je with
          | some kvs,.d k,some z=>if keysOk j.k k kvs=true then
              (match kfind k kvs 0 with
              | some (_,v)=>some (if b=true then .tup [.d v,.d (.bool true)] else .d v)
              | none=>some (if b=true then .tup [.d z,.d (.bool false)] else .d z))
            else none
          | _,_,_=>none
        | _,_=>none
      | _=>none
    | none=>none
  | _=>none
theorem nQ_congr {Θ:Tab} {op:Op} {ev ev':Operand→SV} {o:Nat→Option AO} (h:∀ x∈op.operands,ev x=ev' x):nQ Θ op ev o=nQ Θ op ev' o:=by
 have ho:∀ (x:Option Operand),(∀ y,x=some y→ev y=ev' y)→x.map ev=x.map ev':=fun x hx=>by
  cases x with
  | none=>rfl
  | some y=>simp [hx y rfl]
 cases op <;> simp only [nQ]
 case build t parts=>
  have:(parts.toList.map fun p=>(p.1,ev p.2))=parts.toList.map fun p=>(p.1,ev' p.2):=List.map_congr_left fun p hm=>by rw [h p.2 (by simp [Op.operands];exact ⟨p.1,by simpa using hm⟩)]
  have h2:(parts.toList.map fun p=>(p.1,(ev p.2).soft))=parts.toList.map fun p=>(p.1,(ev' p.2).soft):=List.map_congr_left fun p hm=>by rw [h p.2 (by simp [Op.operands];exact ⟨p.1,by simpa using hm⟩)]
  rw [this,h2]
 case load t x=>rw [h x (by simp [Op.operands])]
 case field t x f=>rw [h x (by simp [Op.operands])]
 case nilCheck x=>rw [h x (by simp [Op.operands])]
 case slice t x lo hi mx=>
  rw [h x (by simp [Op.operands]),ho lo (fun y e=>h y (by simp [Op.operands,e])),ho hi (fun y e=>h y (by simp [Op.operands,e])),ho mx (fun y e=>h y (by simp [Op.operands,e]))]
 case convert a b x=>rw [h x (by simp [Op.operands])]
 case indexAddr t x ix=>rw [h x (by simp [Op.operands]),h ix (by simp [Op.operands])]
 case index t x ix=>rw [h x (by simp [Op.operands]),h ix (by simp [Op.operands])]
 case call c=>
  obtain ⟨callee,args,ts⟩:=c;simp only;split
  ·rename_i x t ha _;have:ev x=ev' x:=h x (by
    have:args=#[x]:=list_one0 ha;subst this;simp [Op.operands,Call.operands])
   rw [this]
  ·rfl
 case binOp b t x y u=>rw [h x (by simp [Op.operands]),h y (by simp [Op.operands])]
 case lookup t m x b=>rw [h m (by simp [Op.operands]),h x (by simp [Op.operands])]
where
 list_one0 {α:Type} {xs:Array α} {x:α} (h:xs.toList=[x]):xs=#[x]:=by apply Array.ext';simpa using h
section
variable {P:Program} {Θ:Tab} {s:St} {a:Act} {w:World} {S:Nat→Prop} {γ:Nat→Value} {op:Oper}
theorem load_at {t:TypeId} {i:TI} (hT:TOk P t i) {ad:Addr} {x0:D} {v:Value} (hr:Rd w S x0 v) (hc:∀ (j:Nat) (u:Value),v.cells[j]?=some u→w.cell? (ad.add j)=some u) (h1:x0.leaf=!i.k.agg) (h2:x0.width=i.sz) :
    (Instr.loadAt t (.pointer (some ad))).run P w=.ok v w:=by
  by_cases hag:i.k.agg=true
  · rw [hag] at h1;cases hr with
    | agg xs vs h3 h4 h5=>
      have hl2:(loadCells ad vs.length).run P w=.ok vs.toArray w:=
        run_loadCells_list (P:=P) w ad vs (fun j u hu=>hc j u (by simpa [Value.cells] using hu))
      have hsz:vs.length=i.sz:=by rw [h4];exact h2
      rw [hsz] at hl2;simp [Instr.loadAt,Instr.sureAddr,loadVar,hT.run_agg,hag,hT.run_size,hl2]
    | _=>simp [D.leaf] at h1
  · simp only [Bool.not_eq_true] at hag;rw [hag] at h1;have hone:=hr.leaf_cells (by simpa using h1);have hcell:w.cell? ad=some v:=by
      have:=hc 0 v (by rw [hone];rfl);simpa [Addr.add] using this
    simp [Instr.loadAt,Instr.sureAddr,loadVar,hT.run_agg,hag,hcell]
theorem at_rd {x y:D} {f sz:Nat} {ag:Bool} {v:Value} (h:Rd w S x v) (hs:x.at f sz ag=some y) :
    ∃ u,Rd w S y u∧(∀ (j:Nat) (c:Value),u.cells[j]?=some c→v.cells[f+j]?=some c)∧y.leaf=!ag∧y.width=sz:=by
  unfold D.at at hs;split at hs
  · rename_i hc;simp only [Option.some.injEq] at hs;subst hs;obtain ⟨rfl,h1,h2⟩:=hc;exact ⟨v,h,fun j c hj=>by simpa using hj,h1,h2⟩
  · split at hs
    · rename_i y' hy;split at hs
      · rename_i hc;simp only [Option.some.injEq] at hs;subst hs;obtain ⟨u,k1,k2,_⟩:=sub_rd h hy;exact ⟨u,k1,k2,hc.1,hc.2⟩
      · cases hs
    · cases hs
theorem RowC.ptr {e:TypeId} {z:Nat} {xs:List D} {vs:List Value} {u v:Value} {j f:Nat} (hR:RowC w S u e z xs vs) (h:∃ g n c,u=.slice (some ⟨g,0,none⟩) n c∧v=.pointer (some ⟨g,j * z+f,none⟩)) :
    ∃ g n c,u=.slice (some ⟨g,0,none⟩) n c∧v=.pointer (some ⟨g,j * z+f,none⟩)∧∀ (x:Value) (p:Nat) (c:Value),vs[j]?=some x→x.cells[f+p]?=some c→w.cell? ((⟨g,j * z+f,none⟩:Addr).add p)=some c:=by
  obtain ⟨g,n,c,rfl,rfl⟩:=h;refine ⟨g,n,c,rfl,rfl,fun x p c h1 h2=>?_⟩;have:=hR.cell h1 h2;rw [Addr.add_mid];rw [Nat.add_assoc];exact this
theorem q_load (hΘ:TabOk P Θ) (hf:Fr s a w S γ) {t:TypeId} {x:Operand} {i:TI} {q j f:Nat} {e:TypeId} {z:Nat} {xs:List D} {x0 y:D} (ho:op.op=.load t x) (hi:Θ t=some i) (hx:ev s.sl x=.rel q j f) (hq:s.o q=some (.row e z xs)) (hj:xs[j]?=some x0) (hy:x0.at f i.sz i.k.agg=some y) :
    Done w S γ s.o s.nk ((execOp a.eval op).run P w) (.d y) s.o s.nk:=by
  have h1:=hf.ev x;rw [hx] at h1;have hrun:(execOp a.eval op).run P w=((Instr.loadAt t (a.eval x)).run P w).andThen fun u w'=>.ok (.value u) w':=by simp [execOp,ho]
  generalize a.eval x=ux at h1 hrun;obtain ⟨vs,hR⟩:=(hf.sto.row _ _ _ _ hq).get;cases h1 with
  | rel _ _ _ _ hv=>
    obtain ⟨g,n,c,k1,rfl,k2⟩:=hR.ptr (hv _ _ _ hq);have hlt:j < xs.length:=(List.getElem?_eq_some_iff.1 hj).1;have hvj:vs[j]?=some (vs[j]'(by rw [hR.len];exact hlt)):=List.getElem?_eq_getElem _;obtain ⟨u,r1,r2,r3,r4⟩:=at_rd (hR.rd j _ _ hj hvj) hy;have:=load_at (hΘ t i hi) r1 (fun p c hp=>k2 _ p c hvj (r2 p c hp)) r3 r4;exact Done.now hf.sto (u:=u) (by rw [hrun,this];rfl) (.d _ _ r1) trivial
theorem run_slice_of {t e:TypeId} {i j:TI} (hΘ:TabOk P Θ) (hi:Θ t=some i) (hk:i.k=.slice e) (hj:Θ e=some j) {A:Option Addr} {n cap l h m:Nat} {vl vh vm:Option Value} (hr:(Instr.sliceBounds true n cap vl vh vm).run P w=.ok (l,h,m) w) :
    (Instr.sliceAt t (.slice A n cap) vl vh vm).run P w=.ok (.slice (if m=l then A else A.map (·.add (l * j.sz))) (h - l) (m - l)) w:=by
  simp [Instr.sliceAt,Instr.slice,run_underlying ((hΘ t i hi).slice hk),hr,(hΘ e j hj).run_size]
theorem q_slice (hΘ:TabOk P Θ) (hf:Fr s a w S γ) {t:TypeId} {x:Operand} {lo hi mx:Option Operand} {v:SV} (ho:op.op=.slice t x lo hi mx) (h:nQ Θ (.slice t x lo hi mx) (ev s.sl) s.o=some v) :
    Done w S γ s.o s.nk ((execOp a.eval op).run P w) v s.o s.nk:=by
  have hrun:(execOp a.eval op).run P w=((Instr.sliceAt t (a.eval x) (lo.map a.eval) (hi.map a.eval) (mx.map a.eval)).run P w).andThen fun u w'=>.ok (.value u) w':=by simp [execOp,ho]
  have b1:=bv_of hf lo;have b2:=bv_of hf hi;have b3:=bv_of hf mx;have hx:=hf.ev x;have hlx:=hf.lt x;simp only [nQ] at h;generalize lo.map (Abs.ev s.sl)=cl at h b1;generalize hi.map (Abs.ev s.sl)=ch at h b2;generalize mx.map (Abs.ev s.sl)=cm at h b3;generalize lo.map a.eval=vl at hrun b1;generalize hi.map a.eval=vh at hrun b2;generalize mx.map a.eval=vm at hrun b3;generalize Abs.ev s.sl x=c at h hx hlx;generalize a.eval x=ux at hx hrun;split at h
  · rename_i i hi';split at h
    · rename_i e hk;split at h
      · rename_i j hj;split at h
        · rename_i q l n k xs hvo;obtain ⟨e',ho',hvw,hle⟩:=viewOf_ok hf.sto hx hvo;split at h
          · rename_i l' hh m hb;simp only [Option.some.injEq] at h;subst h;have hqn:q < s.nk:=hf.sto.o_lt _ _ ho';obtain ⟨vs,hR⟩:=(hf.sto.row _ _ _ _ ho').get;have hnb:n≤k.cap (xs.length - l) n:=by cases k <;> simp only [VC.cap] <;> omega
            rcases hvw with ⟨hu,rfl,rfl,rfl⟩ | ⟨g,m0,k0,p,hu,q2,q3,q4,q5,q6⟩
            · have hxs:xs=[]:=by
                rcases hR.blk with ⟨_,h2⟩ | ⟨g,cap,cur,h2,_⟩
                · exact h2
                · rw [hu] at h2;cases h2
              subst hxs;have hb0:k.cap (([]:List D).length - 0) 0≤0:=by cases k <;> simp [VC.cap]
              obtain ⟨m',r1,r2,r3,r4,r5,r6,r7⟩:=run_vbnd (P:=P) (cap:=0) b1 b2 b3 hnb hb0 hb;have e1:m'=0:=by omega
              have e2:hh=0:=by omega
              have e3:l'=0:=by omega
              subst e1;subst e2;subst e3;refine Done.now hf.sto (u:=.slice none 0 0) (by rw [hrun,run_slice_of hΘ hi' hk hj r1];rfl) (.view _ _ _ _ _ fun e2 z2 xs2 h2=>.inl ⟨hu,rfl,rfl,rfl⟩) hqn
            · have hcap:xs.length≤k0:=by
                rcases hR.blk with ⟨h2,_⟩ | ⟨g',cap,cur,h2,_,h3,_⟩
                · rw [hu] at h2;cases h2
                · rw [hu] at h2;simp only [Value.slice.injEq] at h2;omega
              have hbp:k.cap (xs.length - l) n≤p:=by
                cases k with
                | full=>have:=q4 rfl;simp only [VC.cap];omega
                | unk=>exact q2
                | exact=>exact q2
              obtain ⟨m',r1,r2,r3,r4,r5,r6,r7⟩:=run_vbnd (P:=P) (cap:=p) b1 b2 b3 hnb hbp hb;have key:∃ A,(ux=.slice A n p)∧(A=some ⟨g,l * j.sz,none⟩∨p=0∧∃ f,f≤l * j.sz∧A=some ⟨g,f,none⟩):=by
                rcases q6 with rfl | ⟨h0,f,hfl,rfl⟩
                · exact ⟨_,rfl,.inl rfl⟩
                · have:n=0:=by omega
                  subst this;subst h0;exact ⟨_,rfl,.inr ⟨rfl,f,hfl,rfl⟩⟩
              obtain ⟨A,rfl,hA⟩:=key;refine Done.now hf.sto (by rw [hrun,run_slice_of hΘ hi' hk hj r1];rfl) (.view _ _ _ _ _ fun e2 z2 xs2 h2=>?_) hqn;rw [ho'] at h2;simp only [Option.some.injEq,AO.row.injEq] at h2;obtain ⟨_,hz2,_⟩:=h2;subst hz2;refine .inr ⟨g,m0,k0,m' - l',hu,by omega,by omega,fun hc=>?_,fun hc=>?_,?_⟩
              · cases m with
                | some k1=>simp only [VC.cut] at hc;split at hc <;> cases hc
                | none=>
                  cases k <;> simp only [VC.cut] at hc <;> try (cases hc;done)
                  have:=q4 rfl;have:=r6 rfl;omega
              · cases m with
                | some k1=>
                  simp only [VC.cut] at hc;split at hc
                  · have:=r7 _ rfl;omega
                  · cases hc
                | none=>cases k <;> simp only [VC.cut] at hc <;> cases hc
              · by_cases hml:m'=l'
                · rw [if_pos hml];right;refine ⟨by omega,?_⟩;have e1:hh - l'=0:=by omega
                  have e2:m' - l'=0:=by omega
                  rw [e1,e2];have hmul:l * j.sz≤(l+l') * j.sz:=Nat.mul_le_mul_right _ (by omega);rcases hA with rfl | ⟨_,f,hfl,rfl⟩
                  · exact ⟨_,hmul,rfl⟩
                  · exact ⟨_,Nat.le_trans hfl hmul,rfl⟩
                · rw [if_neg hml];left;rcases hA with rfl | ⟨h0,f,_,rfl⟩
                  · simp only [Option.map_some,Addr.add_mid];rw [Nat.add_mul]
                  · omega
          · cases h
        · rename_i hvo;split at h
          · rename_i z xs;split at h
            · rename_i hz;subst hz;split at h
              · rename_i l' hh kk hb;split at h
                · rename_i hkh;subst hkh;simp only [Option.some.injEq] at h;subst h;cases hx with
                  | d _ _ hr=>
                    obtain ⟨A,n,c,rfl,rfl,hlc,_⟩:=rd_cut hr (m:=0) (h:=0) (l:=0);obtain ⟨m',r1,r2,r3,r4,r5,r6,r7⟩:=run_vbnd (P:=P) (cap:=c) b1 b2 b3 (Nat.le_refl _) hlc hb;have:=r7 _ rfl;subst this;obtain ⟨A',n',c',he,hn',hlc',hcut⟩:=rd_cut hr (m:=m') (h:=m') (l:=l');simp only [Value.slice.injEq] at he;obtain ⟨rfl,rfl,rfl⟩:=he;refine Done.now hf.sto (by rw [hrun,run_slice_of hΘ hi' hk hj r1];rfl) (.dx _ _ _ (hcut r2 r3 r4 r5) fun A n c h=>?_) trivial;simp only [Value.slice.injEq] at h;omega
                · cases h
              · cases h
            · cases h
          · split at h
            · rename_i r hb;obtain ⟨l',hh,kk⟩:=r;simp only [Option.some.injEq] at h;subst h;cases hx with
              | d _ _ hr=>cases hr with
                | nil=>
                  obtain ⟨m',r1,r2,r3,r4,r5,r6,r7⟩:=run_vbnd (P:=P) (cap:=0) b1 b2 b3 (Nat.le_refl _) (Nat.le_refl _) hb;have e1:m'=0:=by omega
                  have e2:hh=0:=by omega
                  have e3:l'=0:=by omega
                  subst e1;subst e2;subst e3;exact Done.now hf.sto (u:=.slice none 0 0) (by rw [hrun,run_slice_of hΘ hi' hk hj r1];rfl) (.d _ _ .nil) trivial
            · cases h
          · rename_i z xs;split at h
            · rename_i hz;subst hz;split at h
              · rename_i l' hh kk hb;simp only [Option.some.injEq] at h;subst h;cases hx with
                | dx _ _ _ hr hcx=>
                  obtain ⟨A,n,c,rfl,rfl,hlc,_⟩:=rd_cut hr (m:=0) (h:=0) (l:=0);obtain ⟨m',r1,r2,r3,r4,r5,r6,r7⟩:=run_vbnd (P:=P) (cap:=c) b1 b2 b3 (Nat.le_refl _) hlc hb;obtain ⟨A',n',c',he,hn',hlc',hcut⟩:=rd_cut hr (m:=m') (h:=hh) (l:=l');simp only [Value.slice.injEq] at he;obtain ⟨rfl,rfl,rfl⟩:=he;exact Done.now hf.sto (by rw [hrun,run_slice_of hΘ hi' hk hj r1];rfl) (.d _ _ (hcut r2 r3 r4 r5)) trivial
              · cases h
            · cases h
          · cases h
      · cases h
    · cases h
  · cases h
theorem q_nc (hf:Fr s a w S γ) {x:Operand} {q j f:Nat} {e:TypeId} {z:Nat} {xs:List D} (ho:op.op=.nilCheck x) (hx:ev s.sl x=.rel q j f) (hq:s.o q=some (.row e z xs)) :
    Done w S γ s.o s.nk ((execOp a.eval op).run P w) (.rel q j f) s.o s.nk:=by
  have h1:=hf.ev x;have h2:=hf.lt x;rw [hx] at h1 h2;generalize hu:a.eval x=u at h1;cases h1 with
  | rel _ _ _ _ hv=>
    obtain ⟨g,n,c,k1,rfl⟩:=hv _ _ _ hq;exact Done.now hf.sto (u:=.pointer (some ⟨g,j * z+f,none⟩)) (by simp [execOp,ho,hu]) (.rel _ _ _ _ hv) h2
theorem q_index (hΘ:TabOk P Θ) (hf:Fr s a w S γ) {t e:TypeId} {x ix:Operand} {i j:TI} {k:IntKind} {m:Int} {q l n:Nat} {c:VC} {r:Nat×Nat×Nat×VC×List D} (ho:op.op=.indexAddr t x ix) (hi:Θ t=some i) (hk:i.k=.slice e) (hj:Θ e=some j) (hy:ev s.sl ix=.d (.int k m)) (hx:ev s.sl x=.view q l n c)
    (hv:viewOf s.o j.sz (.view q l n c)=some r) (h0:0≤m) (hlt:m.toNat < n):Done w S γ s.o s.nk ((execOp a.eval op).run P w) (.rel q (l+m.toNat) 0) s.o s.nk:=by
  obtain ⟨q',l',n',c',xs⟩:=r;have h1:=hf.ev x;have h2:=hf.ev ix;rw [hx] at h1;rw [hy] at h2;have hrun:(execOp a.eval op).run P w=((Instr.indexAt t (a.eval x) (a.eval ix)).run P w).andThen fun u w'=>.ok (.value u) w':=by simp [execOp,ho]
  generalize a.eval x=ux at h1 hrun;generalize a.eval ix=uy at h2 hrun;obtain ⟨e',hq,hvw,hle⟩:=viewOf_ok hf.sto h1 hv;have hq':q'=q∧l'=l∧n'=n:=by
    simp only [viewOf] at hv;split at hv
    · split at hv
      · simp only [Option.some.injEq,Prod.mk.injEq] at hv;exact ⟨hv.1.symm,hv.2.1.symm,hv.2.2.1.symm⟩
      · cases hv
    · cases hv
  obtain ⟨rfl,rfl,rfl⟩:=hq';obtain ⟨g,m0,k0,p,hu,rfl⟩:=vw_blk hvw (by omega);have hqn:q' < s.nk:=hf.sto.o_lt _ _ hq;have hu':=(hΘ t i hi).slice hk;have hlt':=toNat_lt h0 hlt;cases h2 with
  | d _ _ hr=>cases hr with
    | int=>
      refine Done.now hf.sto (u:=.pointer (some ⟨g,(l' + m.toNat) * j.sz+0,none⟩)) ?_ (.rel _ _ _ _ fun e2 z2 xs2 h2=>?_) hqn
      · rw [hrun];simp [Instr.indexAt,asIntOf,run_underlying hu',h0,hlt',(hΘ e j hj).run_size,Addr.add_mid,Nat.add_mul]
      · rw [hq] at h2;cases h2;exact ⟨g,_,_,hu,rfl⟩
theorem q_indexD (hΘ:TabOk P Θ) (hf:Fr s a w S γ) {t e:TypeId} {x ix:Operand} {i j:TI} {k:IntKind} {m:Int} {z:Nat} {xs:List D} {y:D} (ho:op.op=.indexAddr t x ix) (hi:Θ t=some i) (hk:i.k=.slice e) (hj:Θ e=some j) (hy:ev s.sl ix=.d (.int k m)) (hx:ev s.sl x=.dx z xs)
    (hz:z=j.sz) (h0:0≤m) (hc:xs[m.toNat]?=some y):Done w S γ s.o s.nk ((execOp a.eval op).run P w) (.el y) s.o s.nk:=by
  subst hz;have h1:=hf.ev x;have h2:=hf.ev ix;rw [hx] at h1;rw [hy] at h2;have hrun:(execOp a.eval op).run P w=((Instr.indexAt t (a.eval x) (a.eval ix)).run P w).andThen fun u w'=>.ok (.value u) w':=by simp [execOp,ho]
  generalize a.eval x=ux at h1 hrun;generalize a.eval ix=uy at h2 hrun;have hu:=(hΘ t i hi).slice hk;cases h2 with
  | d _ _ hr2=>cases hr2 with
    | int=>cases h1 with
      | dx _ _ v hr _=>
        cases hr with
        | emp z A c hm=>simp at hc
        | sl z xs ad c vs h1 h2 h3 h4 h5 h6 h7=>
          have hlt:m.toNat < xs.length:=(List.getElem?_eq_some_iff.1 hc).1;have hlt':=toNat_lt h0 hlt;have hv:vs[m.toNat]?=some (vs[m.toNat]'(by omega)):=List.getElem?_eq_getElem (by omega);refine Done.now hf.sto (u:=.pointer (some (ad.add (m.toNat * j.sz)))) ?_ (.el y _ _ (by rw [add_block];exact h3) (h5 _ _ _ hc hv) fun q u hq=>?_) trivial
          · rw [hrun];simp [Instr.indexAt,asIntOf,run_underlying hu,h0,hlt',(hΘ e j hj).run_size]
          · rw [Addr_add_add];exact h7 _ _ _ _ hv hq
theorem mapOf_ok {w:World} {S:Nat→Prop} {γ:Nat→Value} {o:Nat→Option AO} {nk:Nat} (hs:Sto w S γ o nk) {c:SV} {v:Value} {kvs:List (D×D)} (h:SR w S γ o c v) (hm:mapOf o c=some kvs) :
    (v=.map none∧kvs=[])∨∃ q g es clk,c=.raw q∧o q=some (.raw (.map kvs))∧γ q=.map (some g)∧v=.map (some g)∧w.heap[g]?=some (.map es clk)∧MapRd w S kvs es.toList clk:=by
  unfold mapOf at hm;split at hm
  · rename_i q;split at hm
    · rename_i kv ho;simp only [Option.some.injEq] at hm;subst hm;right;cases h with
      | raw _ _ hv=>
        have:=hv _ ho;obtain ⟨g,h1,es,clk,h2,h3⟩:=(hs.raw _ _ ho).out;have h1':γ q=.map (some g):=h1;exact ⟨q,g,es,clk,rfl,ho,h1',by rw [this,h1'],h2,h3⟩
    · cases hm
  · simp only [Option.some.injEq] at hm;subst hm;cases h with
    | d _ _ hr=>cases hr with
      | nilk=>exact .inl ⟨rfl,rfl⟩
  · cases hm
theorem run_len {t:TypeId} {x:Operand} {ty:Array TypeId} (ho:op.op=.call { callee:=.builtin .len,args:=#[x],argTypes:=#[t] }):(execOp a.eval op).run P w=((Builtin.len_ #[t] op.type #[a.eval x]).run P w).andThen fun v w'=>.ok (.value v) w':=by
 unfold execOp;simp only [ho,resolve,invoke,builtin,Sem.run_bind,Sem.run_pure,Result.andThen_ok,List.map_toArray,List.map_cons,List.map_nil]
theorem q_len (hΘ:TabOk P Θ) (hf:Fr s a w S γ) {t:TypeId} {x:Operand} {v:SV} (ho:op.op=.call { callee:=.builtin .len,args:=#[x],argTypes:=#[t] }) (h:nQ Θ (.call { callee:=.builtin .len,args:=#[x],argTypes:=#[t] }) (ev s.sl) s.o=some v) :
    Done w S γ s.o s.nk ((execOp a.eval op).run P w) v s.o s.nk:=by
  have hx:=hf.ev x;have hrun:=run_len (P:=P) (a:=a) (w:=w) (ty:=#[]) ho;simp only [nQ] at h;generalize Abs.ev s.sl x=c at h hx;generalize a.eval x=ux at hx hrun;split at h
  · rename_i i hi;split at h
    · rename_i e q l n k hk;split at h
      · rename_i e' z xs hq;simp only [Option.some.injEq] at h;subst h;cases hx with
        | view _ _ _ _ _ hv=>
          obtain ⟨A,c,rfl⟩:=vw_len (hv _ _ _ hq);refine Done.now hf.sto (u:=.int .i64 n) ?_ (.d _ _ (.int _ _)) trivial;rw [hrun];simp [Builtin.len_,run_underlying ((hΘ t i hi).slice hk),goInt]
      · cases h
    · rename_i e z xs hk;simp only [Option.some.injEq] at h;subst h;cases hx with
      | dx _ _ _ hr _=>
        obtain ⟨A,n,c,rfl,rfl,_⟩:=rd_cut hr (m:=0) (h:=0) (l:=0);refine Done.now hf.sto (u:=.int .i64 xs.length) ?_ (.d _ _ (.int _ _)) trivial;rw [hrun];simp [Builtin.len_,run_underlying ((hΘ t i hi).slice hk),goInt]
    · rename_i kt e hk;obtain ⟨kvs,h1,rfl⟩:=Option.map_eq_some_iff.1 h;refine Done.now hf.sto (u:=.int .i64 kvs.length) ?_ (.d _ _ (.int _ _)) trivial;rw [hrun];rcases mapOf_ok hf.sto hx h1 with ⟨rfl,rfl⟩ | ⟨q,g,es,clk,_,_,_,rfl,h5,h6⟩
      · simp [Builtin.len_,run_underlying ((hΘ t i hi).map hk),goInt]
      · have hgo:(getObj g).run P w=.ok (.map es clk) w:=by simp [getObj,Sem.run,h5]
        have:es.size=kvs.length:=by rw [← h6.len];simp
        simp [Builtin.len_,run_underlying ((hΘ t i hi).map hk),goInt,hgo,this]
    · cases h
  · cases h
theorem eq_fn {t:TypeId} {A B C:_} (d:Nat) (h:P.underlying t=some (.func A B C)) {f:Fn} {x y:Array Value}:(Op.equalIn (d+1) t (.func f x y) .nilFunc).run P w=.ok false w∧(Op.equalIn (d+1) t .nilFunc .nilFunc).run P w=.ok true w:=by
 constructor <;> simp [Op.equalIn,run_underlying h]
theorem eq_mp {t k e:TypeId} (d:Nat) (h:P.underlying t=some (.map k e)) {r:Nat}:(Op.equalIn (d+1) t (.map (some r)) (.map none)).run P w=.ok false w∧(Op.equalIn (d+1) t (.map none) (.map none)).run P w=.ok true w:=by
 constructor <;> simp [Op.equalIn,run_underlying h]
theorem bin_eq2 {t:TypeId} {x y:Value} {r:Bool} (h:(Op.equal t x y).run P w=.ok r w) (hx:(∃ f b c,x=.func f b c)∨x=.nilFunc∨∃ r,x=.map r) :
    (binOp .eql t x y).run P w=.ok (.bool r) w∧(binOp .neq t x y).run P w=.ok (.bool (!r)) w:=by
  rcases hx with ⟨f,b,c,rfl⟩ | rfl | ⟨q,rfl⟩ <;> constructor <;> simp [binOp,h]
theorem eqV_ok {j:TI} {t:TypeId} (hT:TOk P t j) {x y:D} {b:Bool} (h:eqV j.k x y=some b) {u v:Value} (hu:Rd w S x u) (hv:Rd w S y v) (d:Nat) :
    j.k.agg=false∧(Op.equalIn (d+1) t u v).run P w=.ok b w:=by
  unfold eqV at h;split at h
  · rename_i k a m b n hk;split at h
    · rename_i hab;subst hab;simp only [Option.some.injEq] at h;subst h;cases hu;cases hv;refine ⟨by rw [hk];rfl,?_⟩;rw [run_equalIn_int w d t a k m n (hT.int hk)];congr 1
    · cases h
  · rename_i a b hk;simp only [Option.some.injEq] at h;subst h;cases hu;cases hv;exact ⟨by rw [hk];rfl,run_equalIn_bool' w d t a b (hT.bool hk)⟩
  · rename_i a b hk;simp only [Option.some.injEq] at h;subst h;cases hu;cases hv;refine ⟨by rw [hk];rfl,?_⟩;rw [run_equalIn_string w d t _ _ (hT.str hk)];congr 1;simp only [ByteArray.toList_eq];by_cases hab:a=b
    · subst hab;simp
    · simp [hab]
  · cases h
theorem eqFs_ok (hΘ : TabOk P Θ) {xs ys : List D} {us vs : List Value} (hx : Rd w S (.agg xs) (.agg us.toArray)) (hy : Rd w S (.agg ys) (.agg vs.toArray)) (d : Nat) : ∀ (F : List Field) (b : Bool), (F.all fun f => f.name != "_") = true →
    eqFs Θ xs ys (F.map fun f=>(f.offset,f.type))=some b→(Op.eqFields (d+1) us.toArray vs.toArray F).run P w=.ok b w
  | [],b,_,h=>by
    simp only [List.map_nil,eqFs,Option.some.injEq] at h;subst h;simp [Op.eqFields]
  | f :: F,b,hn,h=>by
    simp only [List.all_cons,Bool.and_eq_true,bne_iff_ne,ne_eq] at hn;simp only [List.map_cons,eqFs] at h;split at h
    · rename_i j x y hj h1 h2;split at h
      · rename_i p q hp hq;simp only [Option.some.injEq] at h;have ih:=eqFs_ok hΘ hx hy d F q hn.2 hq;have g1:∃ u,us[f.offset]?=some u∧Rd w S x u:=by
          cases hx with
          | agg _ us' k1 k2 k3=>
            have hlt:f.offset < xs.length:=(List.getElem?_eq_some_iff.1 h1).1;have hu:us[f.offset]?=some (us[f.offset]'(by omega)):=List.getElem?_eq_getElem (by omega);exact ⟨_,hu,k3 _ _ _ h1 hu⟩
        have g2:∃ u,vs[f.offset]?=some u∧Rd w S y u:=by
          cases hy with
          | agg _ us' k1 k2 k3=>
            have hlt:f.offset < ys.length:=(List.getElem?_eq_some_iff.1 h2).1;have hu:vs[f.offset]?=some (vs[f.offset]'(by omega)):=List.getElem?_eq_getElem (by omega);exact ⟨_,hu,k3 _ _ _ h2 hu⟩
        obtain ⟨u,hu,ru⟩:=g1;obtain ⟨v,hv,rv⟩:=g2;obtain ⟨ha,he⟩:=eqV_ok (hΘ _ _ hj) hp ru rv d;have hpart:∀ (cs:List Value) (u:Value),cs[f.offset]?=some u→(part f.type cs.toArray f.offset).run P w=.ok u w:=fun cs u hc=>by
          simp [part,(hΘ _ _ hj).run_agg,ha,hc]
        simp only [Op.eqFields,Sem.run_ite,ne_eq,hn.1,not_false_eq_true,if_true,Sem.run_bind,hpart us u hu,hpart vs v hv,Result.andThen_ok,he];cases p with
        | true=>
          simp only [Bool.not_true,Bool.false_eq_true,if_false,ih];rw [← h,Bool.true_and]
        | false=>
          rw [← h,Bool.false_and];simp
      · cases h
    · cases h
theorem eqS_ok (hΘ:TabOk P Θ) {t:TypeId} {i:TI} {fs:List (Nat×Nat)} (hi:Θ t=some i) (hk:i.k=.struct fs) (he:i.eq=true) {xs ys:List D} {u v:Value} (hx:Rd w S (.agg xs) u) (hy:Rd w S (.agg ys) v) {q:Bool} (h:eqFs Θ xs ys fs=some q) (b:BinOp) (x y:Operand) :
    (eqGuard b t x y u v).run P w=.ok () w∧(binOp .eql t u v).run P w=.ok (.bool q) w∧(binOp .neq t u v).run P w=.ok (.bool (!q)) w:=by
  have hB:=(hΘ t i hi).q he;obtain ⟨F,h1,h2,_⟩:=(hΘ t i hi).struct hk;unfold eqB at hB;rw [h1] at hB;simp only [Bool.and_eq_true,Bool.not_eq_true'] at hB;obtain ⟨b1,b2,b3⟩:=hB;have hu:∃ us:List Value,u=.agg us.toArray:=by cases hx with | agg _ us=>exact ⟨us,rfl⟩
  have hv:∃ us:List Value,v=.agg us.toArray:=by cases hy with | agg _ us=>exact ⟨us,rfl⟩
  obtain ⟨us,rfl⟩:=hu;obtain ⟨vs,rfl⟩:=hv;have hF:P.fieldsOf t=F:=by simp [Program.fieldsOf,h1]
  have ht:P.underlying t=some (.struct (P.fieldsOf t)):=by rw [hF];exact h1
  have hr:(Op.equalIn 10000 t (.agg us.toArray) (.agg vs.toArray)).run P w=.ok q w:=by
    rw [run_equalIn_struct w 9999 t _ _ ht b1,hF];exact eqFs_ok hΘ hx hy 9998 F.toList q b3 (by rw [← h2];exact h)
  refine ⟨run_eqGuard_agg w b t x y _ _ b2,?_,?_⟩
  · rw [run_eql_struct,hr];rfl
  · rw [run_neq_struct,hr];rfl
theorem q_bin (hΘ:TabOk P Θ) (hf:Fr s a w S γ) {b:BinOp} {t u:TypeId} {x y:Operand} {v:SV} (ho:op.op=.binOp b t x y u) (h:nQ Θ (.binOp b t x y u) (ev s.sl) s.o=some v) :
    Done w S γ s.o s.nk ((execOp a.eval op).run P w) v s.o s.nk:=by
  have hx:=hf.ev x;have hy:=hf.ev y;have hrun:(execOp a.eval op).run P w=((eqGuard b t x y (a.eval x) (a.eval y)).run P w).andThen fun _ w'=>((binOp b t (a.eval x) (a.eval y)).run P w').andThen fun u w'=>.ok (.value u) w':=by simp [execOp,ho]
  have fin:∀ (r:Bool),((∃ f q c,a.eval x=.func f q c)∨a.eval x=.nilFunc∨∃ r,a.eval x=.map r)→(Op.equal t (a.eval x) (a.eval y)).run P w=.ok r w→(b=.eql→v=.d (.bool r))→(b=.neq→v=.d (.bool (!r)))→(b=.eql∨b=.neq)→Done w S γ s.o s.nk ((execOp a.eval op).run P w) v s.o s.nk:=by
    intro r hxx hr h1 h2 hb;obtain ⟨k1,k2⟩:=bin_eq2 hr hxx;have hg:(eqGuard b t x y (a.eval x) (a.eval y)).run P w=.ok () w:=run_eqGuard_no (fun cs e=>by rcases hxx with ⟨_,_,_,h⟩ | h | ⟨_,h⟩ <;> rw [h] at e <;> cases e) (fun e=>by rcases hxx with ⟨_,_,_,h⟩ | h | ⟨_,h⟩ <;> rw [h] at e <;> cases e);rcases hb with rfl | rfl
    · rw [h1 rfl];refine Done.now hf.sto (u:=.bool r) ?_ (.d _ _ (.bool _)) trivial;rw [hrun];simp [hg,k1]
    · rw [h2 rfl];refine Done.now hf.sto (u:=.bool (!r)) ?_ (.d _ _ (.bool _)) trivial;rw [hrun];simp [hg,k2]
  have sd:∀ {d:D} {u:Value},SR w S γ s.o (.d d) u→Rd w S d u:=fun hu=>by cases hu with | d _ _ hr=>exact hr
  simp only [nQ] at h;have hn1:∀ {c:SV} {u:Value},c=.d (.nilk 1)→SR w S γ s.o c u→u=.nilFunc:=fun hc hu=>by
    subst hc;cases hu with
    | d _ _ hr=>cases hr;rfl
  have hn0:∀ {c:SV} {u:Value},c=.d (.nilk 0)→SR w S γ s.o c u→u=.map none:=fun hc hu=>by
    subst hc;cases hu with
    | d _ _ hr=>cases hr;rfl
  have hcl:∀ {c:SV} {u:Value} {f fs cs},c=.clo f fs cs→SR w S γ s.o c u→∃ f b c,u=.func f b c:=fun hc hu=>by
    subst hc;cases hu with
    | clo=>exact ⟨_,_,_,rfl⟩
  have hmp:∀ {c:SV} {u:Value} {q:Nat} {kvs},c=.raw q→s.o q=some (.raw (.map kvs))→SR w S γ s.o c u→∃ g,u=.map (some g):=fun hc hq hu=>by
    subst hc;cases hu with
    | raw _ _ hv=>
      obtain ⟨g,h2,_⟩:=(hf.sto.raw _ _ hq).out;exact ⟨g,(hv _ hq).trans h2⟩
  split at h
  · rename_i i hi;split at h
    · rename_i hk h1 h2;simp only [Option.some.injEq] at h;subst h;obtain ⟨A,B,C,hu⟩:=(hΘ t i hi).fn hk;obtain ⟨f,b,c,e1⟩:=hcl h1 hx;have e2:=hn1 h2 hy;exact fin false (.inl ⟨f,b,c,e1⟩) (by rw [e1,e2];exact (eq_fn 9999 hu).1) (fun _=>rfl) (fun h=>(by cases h)) (.inl rfl)
    · rename_i hk h1 h2;simp only [Option.some.injEq] at h;subst h;obtain ⟨A,B,C,hu⟩:=(hΘ t i hi).fn hk;have e1:=hn1 h1 hx;have e2:=hn1 h2 hy;exact fin true (.inr (.inl e1)) (by rw [e1,e2];exact (eq_fn (f:=.func 0) (x:=#[]) (y:=#[]) 9999 hu).2) (fun _=>rfl) (fun h=>(by cases h)) (.inl rfl)
    · rename_i hk h1 h2;simp only [Option.some.injEq] at h;subst h;have hu:=(hΘ t i hi).map hk;have e1:=hn0 h1 hx;have e2:=hn0 h2 hy;exact fin true (.inr (.inr ⟨_,e1⟩)) (by rw [e1,e2];exact (eq_mp (r:=0) 9999 hu).2) (fun _=>rfl) (fun h=>(by cases h)) (.inl rfl)
    · rename_i hk h1 h2;split at h
      · rename_i hq;simp only [Option.some.injEq] at h;subst h;have hu:=(hΘ t i hi).map hk;obtain ⟨g,e1⟩:=hmp h1 hq hx;have e2:=hn0 h2 hy;exact fin false (.inr (.inr ⟨_,e1⟩)) (by rw [e1,e2];exact (eq_mp 9999 hu).1) (fun _=>rfl) (fun h=>(by cases h)) (.inl rfl)
      · cases h
    · rename_i hk h1 h2;split at h
      · rename_i he;obtain ⟨q,hq,rfl⟩:=Option.map_eq_some_iff.1 h;rw [h1] at hx;rw [h2] at hy;obtain ⟨k1,k2,k3⟩:=eqS_ok hΘ hi hk he (sd hx) (sd hy) hq .eql x y;refine Done.now hf.sto (u:=.bool q) ?_ (.d _ _ (.bool _)) trivial;rw [hrun];simp [k1,k2]
      · cases h
    · cases h
  · rename_i i hi;split at h
    · rename_i hk h1 h2;simp only [Option.some.injEq] at h;subst h;obtain ⟨A,B,C,hu⟩:=(hΘ t i hi).fn hk;obtain ⟨f,b,c,e1⟩:=hcl h1 hx;have e2:=hn1 h2 hy;exact fin false (.inl ⟨f,b,c,e1⟩) (by rw [e1,e2];exact (eq_fn 9999 hu).1) (fun h=>(by cases h)) (fun _=>rfl) (.inr rfl)
    · rename_i hk h1 h2;simp only [Option.some.injEq] at h;subst h;obtain ⟨A,B,C,hu⟩:=(hΘ t i hi).fn hk;have e1:=hn1 h1 hx;have e2:=hn1 h2 hy;exact fin true (.inr (.inl e1)) (by rw [e1,e2];exact (eq_fn (f:=.func 0) (x:=#[]) (y:=#[]) 9999 hu).2) (fun h=>(by cases h)) (fun _=>rfl) (.inr rfl)
    · rename_i hk h1 h2;simp only [Option.some.injEq] at h;subst h;have hu:=(hΘ t i hi).map hk;have e1:=hn0 h1 hx;have e2:=hn0 h2 hy;exact fin true (.inr (.inr ⟨_,e1⟩)) (by rw [e1,e2];exact (eq_mp (r:=0) 9999 hu).2) (fun h=>(by cases h)) (fun _=>rfl) (.inr rfl)
    · rename_i hk h1 h2;split at h
      · rename_i hq;simp only [Option.some.injEq] at h;subst h;have hu:=(hΘ t i hi).map hk;obtain ⟨g,e1⟩:=hmp h1 hq hx;have e2:=hn0 h2 hy;exact fin false (.inr (.inr ⟨_,e1⟩)) (by rw [e1,e2];exact (eq_mp 9999 hu).1) (fun h=>(by cases h)) (fun _=>rfl) (.inr rfl)
      · cases h
    · rename_i hk h1 h2;split at h
      · rename_i he;obtain ⟨q,hq,rfl⟩:=Option.map_eq_some_iff.1 h;rw [h1] at hx;rw [h2] at hy;obtain ⟨k1,k2,k3⟩:=eqS_ok hΘ hi hk he (sd hx) (sd hy) hq .neq x y;refine Done.now hf.sto (u:=.bool (!q)) ?_ (.d _ _ (.bool _)) trivial;rw [hrun];simp [k1,k3]
      · cases h
    · cases h
  · cases h
theorem same_k {kt:TypeId} {j:TI} {k k2:D} {v v2:Value} (hT:TOk P kt j) (h1:keyK j.k k=true) (h2:keyK j.k k2=true) (r1:Rd w S k v) (r2:Rd w S k2 v2):∃ T,P.underlying kt=some T∧Instr.sameNow T v v2=some (eqK k k2)∧(eqK k k2=true→Instr.sameBits 10000 v2 v=true)∧∀ e,(Instr.checkKey e 10000 kt v).run P w=.ok () w:=by
 unfold keyK at h1 h2;split at h1
 ·rename_i s hk;have hu:=hT.str hk;split at h2
  ·rename_i s2 _;cases r1;cases r2;refine ⟨_,hu,?_,fun h=>?_,fun e=>check_str hu e⟩
   ·simp only [Instr.sameNow,eqK];by_cases h:s=s2
    ·subst h;simp [bs_eq]
    ·simp [bs_ne h,h]
   ·simp only [eqK,decide_eq_true_eq] at h;subst h;show ((_:ByteArray) == _)=true;exact bs_eq _
  ·rename_i hk2;rw [hk] at hk2;cases hk2
  ·cases h2
 ·rename_i a b n hk;simp only [decide_eq_true_eq] at h1;subst h1;have hu:=hT.int hk;split at h2
  ·rename_i hk2;rw [hk] at hk2;cases hk2
  ·rename_i a2 b2 n2 hk2;rw [hk] at hk2;cases hk2;simp only [decide_eq_true_eq] at h2;subst h2;cases r1;cases r2;refine ⟨_,hu,?_,fun h=>?_,fun e=>?_⟩
   ·simp only [Instr.sameNow,eqK,if_true];congr 1
   ·simp only [eqK,decide_eq_true_eq] at h;subst h;simp [Instr.sameBits]
   ·have:∀ (m:Int) (n:Nat),(Instr.checkKey e (n+1) kt (.int a m)).run P w=.ok () w:=fun m n=>by
     unfold Instr.checkKey;simp only [Sem.run_bind,run_underlying hu,Result.andThen];rfl
    exact this _ 9999
  ·cases h2
 ·cases h1
theorem findNow_k {kt:TypeId} {j:TI} {k:D} {v:Value} {T:TypeDesc} (hT:TOk P kt j) (hu:P.underlying kt=some T) (hk:keyK j.k k=true) (hr:Rd w S k v):∀ (kvs:List (D×D)) (es:List MapEntry) (n:Nat),es.length=kvs.length→(kvs.all fun p=>keyK j.k p.1)=true→
    (∀ (i:Nat) (kv:D×D) (e:MapEntry),kvs[i]?=some kv→es[i]?=some e→Rd w S kv.1 e.key∧Rd w S kv.2 e.val)→
    match kfind k kvs n with
    | some (i,d)=>∃ e q,n+q=i∧es[q]?=some e∧(∃ k',kvs[q]?=some (k',d)∧eqK k k'=true)∧Instr.findNow T v es n=some (some (i,e.val))
    | none=>Instr.findNow T v es n=some none
  | [],[],n,_,_,_=>by simp [kfind,Instr.findNow]
  | [],e :: es,n,h,_,_=>by simp at h
  | kv :: kvs,[],n,h,_,_=>by simp at h
  | (a,d) :: kvs,e :: es,n,hl,ha,hrd=>by
    simp only [List.all_cons,Bool.and_eq_true] at ha;obtain ⟨T',hu',hs,_,_⟩:=same_k (w:=w) (S:=S) hT hk ha.1 hr (hrd 0 _ _ rfl rfl).1;rw [hu] at hu';cases hu';have ih:=findNow_k hT hu hk hr kvs es (n+1) (by simpa using hl) ha.2 (fun i kv e' h1 h2=>hrd (i+1) kv e' (by simpa using h1) (by simpa using h2));simp only [kfind];cases he:eqK k a with
    | true=>
      simp only;rw [he] at hs;exact ⟨e,0,rfl,rfl,⟨a,rfl,he⟩,by simp only [Instr.findNow,hs]⟩
    | false=>
      simp only;rw [he] at hs;split at ih
      · rename_i i d' hf;obtain ⟨e',q,h1,h2,h3,h4⟩:=ih;exact ⟨e',q+1,by omega,by simpa using h2,by simpa using h3,by simp only [Instr.findNow,hs];exact h4⟩
      · simp only [Instr.findNow,hs];exact ih
theorem find_k {kt:TypeId} {j:TI} {k:D} {v:Value} {kvs:List (D×D)} {es:Array MapEntry} {clk:Nat} (hT:TOk P kt j) (hk:keysOk j.k k kvs=true) (hr:Rd w S k v) (hm:MapRd w S kvs es.toList clk) :
    (∀ b,(Instr.checkKey b 10000 kt v).run P w=.ok () w)∧
    match kfind k kvs 0 with
    | some (i,d)=>∃ e,es[i]?=some e∧(∃ k',kvs[i]?=some (k',d)∧eqK k k'=true∧Instr.sameBits 10000 e.key v=true)∧Rd w S d e.val∧(Instr.findKey kt v es.toList).run P w=.ok (some (i,e.val)) w
    | none=>(Instr.findKey kt v es.toList).run P w=.ok none w:=by
  simp only [keysOk,Bool.and_eq_true] at hk;obtain ⟨T,hu,_,_,hck⟩:=same_k (w:=w) (S:=S) hT hk.1 hk.1 hr hr;refine ⟨hck,?_⟩;have:=findNow_k hT hu hk.1 hr kvs es.toList 0 hm.len hk.2 hm.rd;split at this
  · rename_i i d hf;obtain ⟨e,q,h1,h2,⟨k',h3,h3'⟩,h4⟩:=this;have:q=i:=by omega
    subst this;have hrd:=hm.rd _ _ _ h3 h2;have hkk:keyK j.k k'=true:=List.all_eq_true.1 hk.2 (k',d) (List.mem_of_getElem? h3);obtain ⟨_,_,_,hsb,_⟩:=same_k (w:=w) (S:=S) hT hk.1 hkk hr hrd.1;refine ⟨e,by simpa using h2,⟨k',h3,h3',hsb h3'⟩,hrd.2,?_⟩;simp [Instr.findKey,run_underlying hu,h4]
  · rename_i hf;simp [Instr.findKey,run_underlying hu,this]
theorem zero_rd (hΘ:TabOk P Θ) {t:TypeId} {i:TI} {z:D} (hi:Θ t=some i) (hz:zD i=some z):∃ ti zv,P.info? t=some ti∧ti.zero=some zv∧Rd w S z zv:=by
 unfold zD at hz;split at hz
 ·rename_i l hl;obtain ⟨z1,z2,z3⟩:=(hΘ t i hi).z l hl;obtain ⟨ti,h1,_⟩:=(hΘ t i hi).info;have hzv:ti.zero=some (zvOf i.k.agg l):=by simpa [h1] using z1
  refine ⟨ti,_,h1,hzv,?_⟩;have hall:∀ x∈l,x.zok=true:=List.all_eq_true.1 z2;split at hz
  ·rename_i hag;simp only [Option.some.injEq] at hz;subst hz;simp only [zvOf,hag,if_true];refine .agg l (l.map D.zv) ?_ (by simp) fun i x v h1 h2=>?_
   ·rw [List.all_eq_true];intro x hx;have:=hall x hx;cases x <;> simp [D.zok] at this <;> rfl
   ·rw [List.getElem?_map,h1] at h2;simp only [Option.map_some,Option.some.injEq] at h2;subst h2;exact zok_rd (hall x (List.mem_of_getElem? h1))
  ·rename_i hag;split at hz
   ·rename_i d;simp only [Option.some.injEq] at hz;subst hz;simp only [Bool.not_eq_true] at hag;simp only [zvOf,hag];exact zok_rd (hall d (by simp))
   ·cases hz
 ·cases hz
theorem q_lookup (hΘ:TabOk P Θ) (hf:Fr s a w S γ) {t:TypeId} {m x:Operand} {b:Bool} {v:SV} (ho:op.op=.lookup t m x b) (h:nQ Θ (.lookup t m x b) (ev s.sl) s.o=some v) :
    Done w S γ s.o s.nk ((execOp a.eval op).run P w) v s.o s.nk:=by
  have hm:=hf.ev m;have hx:=hf.ev x;have hrun:(execOp a.eval op).run P w=((Instr.lookup t (a.eval m) (a.eval x) b).run P w).andThen fun u w'=>.ok (.value u) w':=by simp [execOp,ho]
  simp only [nQ] at h;split at h
  · rename_i i hi;split at h
    · rename_i kt e hk;split at h
      · rename_i j je hj hje;split at h
        · rename_i kvs k z hmo hxe hzd;rw [hxe] at hx;split at h
          · rename_i hok;obtain ⟨ti,zv,hti,hzv,hzr⟩:=zero_rd (w:=w) (S:=S) hΘ hje hzd;generalize a.eval m=um at hm hrun;generalize a.eval x=ux at hx hrun;cases hx with
            | d _ _ hr=>
              have key:∃ r d,(Instr.lookup t um ux b).run P w=.ok (if b=true then .tuple #[r,.bool d] else r) w∧(match kfind k kvs 0 with
                  | some (_,v)=>Rd w S v r∧d=true
                  | none=>Rd w S z r∧d=false):=by
                rcases mapOf_ok hf.sto hm hmo with ⟨rfl,rfl⟩ | ⟨q,g,es,clk,_,_,_,rfl,h5,h6⟩
                · obtain ⟨k1,k2⟩:=find_k (P:=P) (kvs:=[]) (es:=#[]) (clk:=0) (hΘ kt j hj) hok hr ⟨rfl,by simp,by simp,by simp⟩;refine ⟨zv,false,?_,hzr,rfl⟩;simp only [kfind] at k2;have k2':(Instr.findKey kt ux []).run P w=.ok none w:=k2;unfold Instr.lookup;simp [run_underlying ((hΘ t i hi).map hk),k1,k2',zeroValue,typeInfo,hti,hzv]
                · obtain ⟨k1,k2⟩:=find_k (P:=P) (hΘ kt j hj) hok hr h6;have hgo:(getObj g).run P w=.ok (.map es clk) w:=by simp [getObj,Sem.run,h5]
                  split at k2
                  · rename_i i0 d0 hfd;obtain ⟨e0,e1,_,e2,e3⟩:=k2;refine ⟨e0.val,true,?_,?_⟩
                    · unfold Instr.lookup;simp [run_underlying ((hΘ t i hi).map hk),k1,hgo,e3]
                    · exact ⟨e2,rfl⟩
                  · rename_i hfd;refine ⟨zv,false,?_,?_⟩
                    · unfold Instr.lookup;simp [run_underlying ((hΘ t i hi).map hk),k1,hgo,k2,zeroValue,typeInfo,hti,hzv]
                    · exact ⟨hzr,rfl⟩
              obtain ⟨r,d,hr1,hr2⟩:=key;have tup:∀ {y:D} {dd:Bool},Rd w S y r→dd=d→SR w S γ s.o (if b=true then .tup [.d y,.d (.bool dd)] else .d y) (if b=true then .tuple #[r,.bool d] else r):=fun hy hd=>by
                subst hd;split
                · refine .tup _ [_,_] rfl fun i c v h1 h2=>?_
                  match i with
                  | 0=>simp at h1 h2;subst h1;subst h2;exact .d _ _ hy
                  | 1=>simp at h1 h2;subst h1;subst h2;exact .d _ _ (.bool _)
                  | i+2=>simp at h1
                · exact .d _ _ hy
              have tl:∀ {y:D} {dd:Bool},SV.lt s.nk (if b=true then .tup [.d y,.d (.bool dd)] else .d y):=by
                intro y dd;split
                · exact ⟨trivial,trivial,trivial⟩
                · trivial
              split at h
              · rename_i i0 d0 hfd;rw [hfd] at hr2;simp only [Option.some.injEq] at h;subst h;exact Done.now hf.sto (by rw [hrun,hr1];rfl) (tup hr2.1 hr2.2.symm) tl
              · rename_i hfd;rw [hfd] at hr2;simp only [Option.some.injEq] at h;subst h;exact Done.now hf.sto (by rw [hrun,hr1];rfl) (tup hr2.1 hr2.2.symm) tl
          · cases h
        · cases h
      · cases h
    · cases h
  · cases h
theorem q_ag (hΘ:TabOk P Θ) (hf:Fr s a w S γ) {t e:TypeId} {x ix:Operand} {i j:TI} {k:IntKind} {m:Int} {n:Nat} {cs:List SV} {v:SV} (ho:op.op=.index t x ix) (hi:Θ t=some i) (hk:i.k=.arr n e) (hj:Θ e=some j) (hy:ev s.sl ix=.d (.int k m)) (hx:ev s.sl x=.ag cs)
    (h1:j.sz=1) (h2:j.k.agg=false) (h0:0≤m) (hlt:m.toNat < n) (hc:cs[m.toNat]?=some v):Done w S γ s.o s.nk ((execOp a.eval op).run P w) v s.o s.nk:=by
  have hx1:=hf.ev x;have hlx:=hf.lt x;have hy1:=hf.ev ix;rw [hx] at hx1 hlx;rw [hy] at hy1;have hrun:(execOp a.eval op).run P w=((Instr.index t (a.eval x) (a.eval ix)).run P w).andThen fun u w'=>.ok (.value u) w':=by simp [execOp,ho]
  generalize a.eval x=ux at hx1 hrun;generalize a.eval ix=uy at hy1 hrun;cases hx1 with
  | ag _ vs hv hr _=>cases hy1 with
    | d _ _ hr2=>cases hr2 with
      | int=>
        have hlv:m.toNat < vs.length:=by rw [hv];exact (List.getElem?_eq_some_iff.1 hc).1
        have hlt':=toNat_lt h0 hlt;have hu:=(hΘ t i hi).arr hk;refine Done.now hf.sto (u:=vs[m.toNat]) ?_ (hr _ _ _ hc (List.getElem?_eq_getElem hlv)) (lts_get hlx _ _ hc);rw [hrun];simp [Instr.index,asIntOf,run_underlying hu,h0,hlt',(hΘ e j hj).run_size,part,(hΘ e j hj).run_agg,h1,h2,hlv]
theorem q_ix (hΘ:TabOk P Θ) (hf:Fr s a w S γ) {t e:TypeId} {x ix:Operand} {i j:TI} {k:IntKind} {m:Int} {n:Nat} {xs:List D} {y:D} (ho:op.op=.index t x ix) (hi:Θ t=some i) (hk:i.k=.arr n e) (hj:Θ e=some j) (hy:ev s.sl ix=.d (.int k m)) (hx:ev s.sl x=.d (.agg xs))
    (h0:0≤m) (hlt:m.toNat < n) (hc:(D.agg xs).sub (m.toNat * j.sz) j.sz j.k.agg=some y):Done w S γ s.o s.nk ((execOp a.eval op).run P w) (.d y) s.o s.nk:=by
  have hx1:=hf.ev x;have hy1:=hf.ev ix;rw [hx] at hx1;rw [hy] at hy1;have hrun:(execOp a.eval op).run P w=((Instr.index t (a.eval x) (a.eval ix)).run P w).andThen fun u w'=>.ok (.value u) w':=by simp [execOp,ho]
  generalize a.eval x=ux at hx1 hrun;generalize a.eval ix=uy at hy1 hrun;cases hx1 with
  | d _ _ hr=>cases hy1 with
    | d _ _ hr2=>cases hr2 with
      | int=>
        obtain ⟨u,r1,_,cs,rfl,r2⟩:=sub_rd hr hc;have hlt':=toNat_lt h0 hlt;have hu:=(hΘ t i hi).arr hk;refine Done.now hf.sto (u:=u) ?_ (.d _ _ r1) trivial;rw [hrun];by_cases hag:j.k.agg=true
        · rw [if_pos hag] at r2;simp [Instr.index,asIntOf,run_underlying hu,h0,hlt',(hΘ e j hj).run_size,part,(hΘ e j hj).run_agg,hag,r2.1]
        · rw [if_neg hag] at r2;simp only [Bool.not_eq_true] at hag;simp [Instr.index,asIntOf,run_underlying hu,h0,hlt',(hΘ e j hj).run_size,part,(hΘ e j hj).run_agg,hag,r2]
theorem seqC_ok (hf:Fr s a w S γ):∀ (ps:List (Nat×Operand)) (k:Nat) (cs:List SV),seqC s.o k (ps.map fun p=>(p.1,ev s.sl p.2))=some cs→
    ps.map (fun p=>(p.1,a.eval p.2))=((ps.map fun p=>a.eval p.2).zipIdx k).map (fun p=>(p.2,p.1))∧(ps.map fun p=>a.eval p.2).length=cs.length∧(∀ (i:Nat) (c:SV) (v:Value),cs[i]?=some c→(ps.map fun p=>a.eval p.2)[i]?=some v→SR w S γ s.o c v∧v.cells=#[v]∧v.oneCell'=true)∧SV.lts s.nk cs
  | [],k,cs,h=>by
    simp only [List.map_nil,seqC,Option.some.injEq] at h;subst h;exact ⟨rfl,rfl,by simp,trivial⟩
  | (i,x) :: ps,k,cs,h=>by
    simp only [List.map_cons,seqC] at h;split at h
    · rename_i hik;obtain ⟨rfl,h1c⟩:=hik;split at h
      · rename_i cs' hcs;simp only [Option.some.injEq] at h;subst h;obtain ⟨h1,h2,h3,h4⟩:=seqC_ok hf ps (i+1) cs' hcs;refine ⟨by simp [h1],by simpa using h2,fun j c v q1 q2=>?_,⟨hf.lt x,h4⟩⟩;cases j with
        | zero=>
          simp at q1 q2;subst q1;subst q2;exact ⟨hf.ev x,oneC_ok hf.sto (hf.ev x) h1c,oneC_one hf.sto (hf.ev x) h1c⟩
        | succ j=>exact h3 j c v (by simpa using q1) (by simpa using q2)
      · cases h
    · cases h
theorem cells_ones:∀ {vs:List Value},(∀ v∈vs,v.cells=#[v])→cellsOf vs=vs
 | [],_=>rfl
 | v :: vs,h=>by
  rw [cellsOf_cons,h v (by simp),cells_ones fun u hu=>h u (by simp [hu])];rfl
theorem parts_soft (hf:Fr s a w S γ) (parts:Array (Nat×Operand)):∀ (k:Nat) (p:Nat×SV) (q:Nat×Value),(parts.toList.map fun p=>(p.1,(ev s.sl p.2).soft))[k]?=some p→(parts.map fun p=>(p.1,a.eval p.2)).toList[k]?=some q→p.1=q.1∧∀ x,p.2=.d x→Rd w S x q.2:=by
 intro k p q h1 h2;rw [List.getElem?_map] at h1;obtain ⟨⟨i,x⟩,hx,rfl⟩:=Option.map_eq_some_iff.1 h1;rw [Array.toList_map,List.getElem?_map,hx] at h2;simp only [Option.map_some,Option.some.injEq] at h2;subst h2;refine ⟨rfl,fun d hd=>?_⟩;have:=(hf.ev x).soft;simp only at hd;rw [hd] at this;cases this with
 | d _ v h=>exact h
def Sv (w:World) (S:Nat→Prop) (γ:Nat→Value) (o:Nat→Option AO) (nk:Nat) (cs:List SV) (arr:Array Value):Prop:=
 arr.size=cs.length∧(∀ (i:Nat) (c:SV) (u:Value),cs[i]?=some c→arr[i]?=some u→SR w S γ o c u)∧(∀ (i:Nat) (u:Value),arr[i]?=some u→u.oneCell'=true)∧∀ (i:Nat) (c:SV),cs[i]?=some c→c.lt nk
theorem fill_sv {o:Nat→Option AO} {nk:Nat} (hs:Sto w S γ o nk) {place place':Nat→Option (Nat×Nat)} (hp:∀ i q,place i=some q→place' i=some q):∀ (parts:List (Nat×SV)) (vals:List (Nat×Value)) (cs:List SV) (arr:Array Value) (cs':List SV),
    Sv w S γ o nk cs arr→parts.length=vals.length→(∀ (k:Nat) (p:Nat×SV) (q:Nat×Value),parts[k]?=some p→vals[k]?=some q→p.1=q.1∧SR w S γ o p.2 q.2∧p.2.lt nk)→fillS place o parts cs=some cs'→
    ∃ arr',Instr.fill place' arr vals=some arr'∧Sv w S γ o nk cs' arr'
  | [],[],cs,arr,cs',h,_,_,hf=>by
    simp only [fillS,Option.some.injEq] at hf;subst hf;exact ⟨arr,rfl,h⟩
  | (i,c) :: r,(j,v) :: q,cs,arr,cs',h,hl,hr,hf=>by
    obtain ⟨hij,hx,hlt⟩:=hr 0 _ _ rfl rfl;simp only at hij;subst hij;simp only [fillS] at hf;split at hf
    · rename_i off size ys hpl hys;split at hf
      · rename_i hc;obtain ⟨l1,l2,l3,l4⟩:=SV.cells_sr hs hx hlt hys;simp only at l1 l2 l3;obtain ⟨s1,s2,s3,s4⟩:=h;have hlen:v.cells.toList.length=size:=by rw [Array.length_toList,l1];exact hc.1
        have hle':off+v.cells.toList.length≤arr.size:=by rw [hlen,s1];exact hc.2
        have e:Sv w S γ o nk (cs.take off++ys++cs.drop (off+size)) (setM arr off v.cells.toList):=by
          refine ⟨?_,?_,?_,?_⟩
          · rw [setM_size,s1];simp only [List.length_append,List.length_take,List.length_drop];omega
          · intro k d u hd hu;rw [setM_get _ _ _ _ hle',hlen] at hu;by_cases hj1:k < off
            · rw [if_neg (by omega)] at hu;rw [List.append_assoc,List.getElem?_append_left (by simp;omega),List.getElem?_take,if_pos hj1] at hd;exact s2 k d u hd hu
            · by_cases hj2:k < off+size
              · rw [if_pos (by omega)] at hu;rw [List.append_assoc,List.getElem?_append_right (by simp;omega),List.getElem?_append_left (by simp;omega)] at hd;simp only [List.length_take,Nat.min_eq_left (show off≤cs.length by omega)] at hd;exact l2 (k - off) d u hd (by simpa using hu)
              · rw [if_neg (by omega)] at hu;rw [List.getElem?_append_right (by simp;omega),List.getElem?_drop] at hd;simp only [List.length_append,List.length_take,Nat.min_eq_left (show off≤cs.length by omega)] at hd;rw [show off+size+(k - (off+ys.length))=k by omega] at hd;exact s2 k d u hd hu
          · intro k u hu;rw [setM_get _ _ _ _ hle',hlen] at hu;split at hu
            · exact l3 u (List.mem_of_getElem? hu)
            · exact s3 k u hu
          · intro k d hd;rcases List.mem_append.1 (List.mem_of_getElem? hd) with hm | hm
            · rcases List.mem_append.1 hm with hm | hm
              · obtain ⟨q,hq⟩:=List.getElem?_of_mem (List.mem_of_mem_take hm);exact s4 q d hq
              · obtain ⟨q,hq⟩:=List.getElem?_of_mem hm;exact lts_get l4 q d hq
            · obtain ⟨q,hq⟩:=List.getElem?_of_mem (List.mem_of_mem_drop hm);exact s4 q d hq
        obtain ⟨arr',h1,h2⟩:=fill_sv hs hp r q (cs.take off++ys++cs.drop (off+size)) (setM arr off v.cells.toList) cs' e (by simpa using hl) (fun k p q' h1 h2=>hr (k+1) p q' (by simpa using h1) (by simpa using h2)) hf;refine ⟨arr',?_,h2⟩;simp only [Instr.fill,hp _ _ hpl];have hvs:v.cells.size=size:=by rw [l1];exact hc.1
        have hn:¬ ((decide (v.cells.size≠size) || decide (off+v.cells.size > arr.size))=true):=by
          simp [hvs,s1];omega
        rw [if_neg hn];have:=fold_setM v.cells.toList arr off 0;simp only [Nat.add_zero] at this;rw [← h1,← this,← Array.foldl_toList,Array.toList_zipIdx]
      · cases hf
    · cases hf
theorem zero_sv {ds:List D} {arr:Array Value} {o:Nat→Option AO} {nk:Nat} (h:Lv w S ds arr):Sv w S γ o nk (ds.map .d) arr:=by
 obtain ⟨h1,h2,h3⟩:=h;refine ⟨by simpa using h1,fun i c u hc hu=>?_,fun i u hu=>?_,fun i c hc=>?_⟩
 ·rw [List.getElem?_map] at hc;obtain ⟨d,hd,rfl⟩:=Option.map_eq_some_iff.1 hc;exact .d _ _ (h3 i d u hd hu)
 ·have hlt:i < ds.length:=by rw [← h1];exact (Array.getElem?_eq_some_iff.1 hu).1
  exact (h3 i _ u (List.getElem?_eq_getElem hlt) hu).leaf_one (List.all_eq_true.1 h2 _ (List.getElem_mem hlt))
 ·rw [List.getElem?_map] at hc;obtain ⟨d,hd,rfl⟩:=Option.map_eq_some_iff.1 hc;trivial
theorem parts_any (hf:Fr s a w S γ) (parts:Array (Nat×Operand)):∀ (k:Nat) (p:Nat×SV) (q:Nat×Value),(parts.toList.map fun p=>(p.1,(ev s.sl p.2).soft))[k]?=some p→(parts.map fun p=>(p.1,a.eval p.2)).toList[k]?=some q→p.1=q.1∧SR w S γ s.o p.2 q.2∧p.2.lt s.nk:=by
 intro k p q h1 h2;rw [List.getElem?_map] at h1;obtain ⟨⟨i,x⟩,hx,rfl⟩:=Option.map_eq_some_iff.1 h1;rw [Array.toList_map,List.getElem?_map,hx] at h2;simp only [Option.map_some,Option.some.injEq] at h2;subst h2;exact ⟨rfl,(hf.ev x).soft,SV.soft_lt (hf.lt x)⟩
theorem q_field (hΘ:TabOk P Θ) (hf:Fr s a w S γ) {t ft off f:Nat} {x:Operand} {i j:TI} {fs:List (Nat×Nat)} {cs:List SV} {v:SV} (ho:op.op=.field t x f) (hi:Θ t=some i) (hk:i.k=.struct fs) (hfd:fs[f]?=some (off,ft)) (hj:Θ ft=some j) (hx:ev s.sl x=.ag cs)
    (h:(if j.k.agg=true then (if off+j.sz≤cs.length then some (SV.ag ((cs.drop off).take j.sz)) else none) else cs[off]?)=some v):Done w S γ s.o s.nk ((execOp a.eval op).run P w) v s.o s.nk:=by
  have hrun:(execOp a.eval op).run P w=((Instr.field t (a.eval x) f).run P w).andThen fun u w'=>.ok (.value u) w':=by simp [execOp,ho]
  have hr:=hf.ev x;have hl:=hf.lt x;rw [hx] at hr hl;generalize a.eval x=ux at hr hrun;obtain ⟨F,fd,h4,h5,rfl,rfl⟩:=(hΘ t i hi).field hk hfd;cases hr with
  | ag _ vs hv hr h1=>
    split at h
    · rename_i hag;split at h
      · rename_i hle;simp only [Option.some.injEq] at h;subst h;have hex:vs.toArray.extract fd.offset (fd.offset+j.sz)=((vs.drop fd.offset).take j.sz).toArray:=by
          apply Array.ext';simp only [Array.toList_extract,List.extract_eq_take_drop];congr 1;omega
        refine Done.now hf.sto (u:=.agg ((vs.drop fd.offset).take j.sz).toArray) ?_ (.ag _ _ (by simp [hv]) (fun q c u hc hu=>?_) fun u hu=>h1 u (List.mem_of_mem_drop (List.mem_of_mem_take hu))) (lts_of fun q c hc=>?_)
        · rw [hrun];simp [Instr.field,run_underlying h4,h5,asAgg,part,(hΘ _ j hj).run_agg,hag,(hΘ _ j hj).run_size,hex]
        · have hq:q < j.sz:=by
            have:=(List.getElem?_eq_some_iff.1 hc).1;simp only [List.length_take] at this;omega
          simp only [List.getElem?_take,List.getElem?_drop,if_pos hq] at hc hu;exact hr _ _ _ hc hu
        · have hq:q < j.sz:=by
            have:=(List.getElem?_eq_some_iff.1 hc).1;simp only [List.length_take] at this;omega
          simp only [List.getElem?_take,List.getElem?_drop,if_pos hq] at hc;exact lts_get hl _ _ hc
      · cases h
    · rename_i hag;have hlt:fd.offset < cs.length:=(List.getElem?_eq_some_iff.1 h).1;have hu:vs[fd.offset]?=some (vs[fd.offset]'(by omega)):=List.getElem?_eq_getElem (by omega);refine Done.now hf.sto (u:=vs[fd.offset]'(by omega)) ?_ (hr _ _ _ h hu) (lts_get hl _ _ h);rw [hrun];have hu2:fd.offset < vs.length:=by omega
      simp [Instr.field,run_underlying h4,h5,asAgg,part,(hΘ _ j hj).run_agg,hag,hu2]
theorem q_build (hΘ:TabOk P Θ) (hf:Fr s a w S γ) {t:TypeId} {parts:Array (Nat×Operand)} {v:SV} (ho:op.op=.build t parts) (h:nQ Θ (.build t parts) (ev s.sl) s.o=some v) :
    Done w S γ s.o s.nk ((execOp a.eval op).run P w) v s.o s.nk:=by
  have hrun:(execOp a.eval op).run P w=((Instr.build t (parts.map fun p=>(p.1,a.eval p.2))).run P w).andThen fun u w'=>.ok (.value u) w':=by simp [execOp,ho]
  simp only [nQ] at h;split at h
  · rename_i i hi;split at h
    · rename_i n e hk;split at h
      · rename_i j l hj hz;have hu:=(hΘ t i hi).arr hk;obtain ⟨x,zv,hx,hz0,hlv⟩:=zero_lv hΘ (w:=w) (S:=S) hi hz;have hb:∀ arr,Instr.fill (fun q=>some (q * j.sz,j.sz)) zv.cells (parts.map fun p=>(p.1,a.eval p.2)).toList=some arr→(Instr.build t (parts.map fun p=>(p.1,a.eval p.2))).run P w=.ok (.agg arr) w:=fun arr h=>by
          have h':Instr.fill (fun q=>some (q * j.sz,j.sz)) zv.cells (parts.toList.map fun p=>(p.1,a.eval p.2))=some arr:=by simpa using h
          simp [Instr.build,zeroValue,typeInfo,hx,hz0,run_underlying hu,(hΘ e j hj).run_size,h']
        split at h
        · rename_i ds hfl;simp only [Option.some.injEq] at h;subst h;obtain ⟨arr,h4,h5⟩:=fill_lv (place':=fun q=>some (q * j.sz,j.sz)) (fun _ _ h=>h) _ _ _ _ ds hlv (by simp) (parts_rd hf parts) hfl;refine Done.now hf.sto (u:=.agg arr) (by rw [hrun,hb arr h4];rfl) (.d _ _ ?_) trivial;have:arr=arr.toList.toArray:=by simp
          rw [this];exact .agg ds arr.toList h5.2.1 (by simpa using h5.1) fun i d u hd hu=>h5.2.2 i d u hd (by simpa using hu)
        · split at h
          · rename_i hc;split at h
            · rename_i cs hcs;split at h
              · rename_i hn;simp only [Option.some.injEq] at h;subst h;obtain ⟨h1,h2,h3,h4⟩:=seqC_ok hf parts.toList 0 cs hcs;have hone:∀ v∈(parts.toList.map fun p=>a.eval p.2),v.cells=#[v]∧v.oneCell'=true:=fun v hv=>by
                  obtain ⟨q,hq⟩:=List.getElem?_of_mem hv;have hlt:q < cs.length:=by rw [← h2];exact (List.getElem?_eq_some_iff.1 hq).1
                  exact (h3 q _ v (List.getElem?_eq_getElem hlt) hq).2
                have hzs:zv.cells.size=l.length:=hlv.1;have hfill:=fill_seq (z:=1) (parts.toList.map fun p=>a.eval p.2) 0 zv.cells (fun q u hu=>by
                  rw [(hone u (List.mem_of_getElem? hu)).1];rfl) (by rw [h2,hn,hzs,hc.2];omega)
                rw [← h1,cells_ones (fun v hv=>(hone v hv).1),Nat.zero_mul,setM_all _ _ (by rw [h2,hn,hzs,hc.2])] at hfill;refine Done.now hf.sto (by rw [hrun,hb _ (by rw [hc.1];simpa using hfill)];rfl) (.ag cs _ h2 (fun q c v q1 q2=>(h3 q c v q1 q2).1) fun u hu=>(hone u hu).2) h4
              · cases h
            · cases h
          · cases h
      · cases h
    · rename_i fs hk;split at h
      · rename_i l hz;obtain ⟨x,zv,hx,hz0,hlv⟩:=zero_lv hΘ (w:=w) (S:=S) hi hz;obtain ⟨F,h1,h2,h3⟩:=(hΘ t i hi).struct hk;have hplaces:F.toList.mapM (fun f=>(P.info? f.type).map fun i=>(f.offset,i.size))=some (F.toList.map fun f=>(f.offset,P.cellsOf f.type)):=by
          clear h2;generalize F.toList=L at h3
          induction L with
          | nil=>rfl
          | cons f L ih=>
            have hf:=h3 f (by simp);obtain ⟨y,hy⟩:=Option.isSome_iff_exists.1 hf;rw [List.mapM_cons,ih (fun g hg=>h3 g (by simp [hg]))];simp [hy,Program.cellsOf]
        have hpl:∀ (j:Nat) (q:Nat×Nat),placeOf Θ fs j=some q→(F.toList.map fun f=>(f.offset,P.cellsOf f.type)).toArray[j]?=some q:=fun j q hq=>by
          unfold placeOf at hq;split at hq
          · rename_i off ft hfd;obtain ⟨jt,hj,rfl⟩:=Option.map_eq_some_iff.1 hq;rw [h2,List.getElem?_map] at hfd;obtain ⟨fd,hfd1,hfd2⟩:=Option.map_eq_some_iff.1 hfd;simp only [Prod.mk.injEq] at hfd2;obtain ⟨rfl,rfl⟩:=hfd2;simp only [List.getElem?_toArray,List.getElem?_map,hfd1,Option.map_some,(hΘ _ jt hj).cells]
          · cases hq
        split at h
        · rename_i ds hfl;simp only [Option.some.injEq] at h;subst h;obtain ⟨arr,h4,h5⟩:=fill_lv (place':=fun i=>(F.toList.map fun f=>(f.offset,P.cellsOf f.type)).toArray[i]?) hpl _ _ _ _ ds hlv (by simp) (parts_soft hf parts) hfl;refine Done.now hf.sto (u:=.agg arr) ?_ (.d _ _ ?_) trivial
          · rw [hrun,run_build w t _ arr (by simp only [Program.built,hx,h1,hz0,hplaces];exact h4)];rfl
          · have:arr=arr.toList.toArray:=by simp
            rw [this];exact .agg ds arr.toList h5.2.1 (by simpa using h5.1) fun i d u hd hu=>h5.2.2 i d u hd (by simpa using hu)
        · obtain ⟨cs,hfl,rfl⟩:=Option.map_eq_some_iff.1 h;obtain ⟨arr,h4,g1,g2,g3,g4⟩:=fill_sv hf.sto (place':=fun i=>(F.toList.map fun f=>(f.offset,P.cellsOf f.type)).toArray[i]?) hpl _ _ _ _ cs (zero_sv hlv) (by simp) (parts_any hf parts) hfl;refine Done.now hf.sto (u:=.agg arr) ?_ ?_ (lts_of g4)
          · rw [hrun,run_build w t _ arr (by simp only [Program.built,hx,h1,hz0,hplaces];exact h4)];rfl
          · have:arr=arr.toList.toArray:=by simp
            rw [this];exact .ag cs arr.toList (by simpa using g1) (fun i c u hc hu=>g2 i c u hc (by simpa using hu)) fun u hu=>by
              obtain ⟨q,hq⟩:=List.getElem?_of_mem hu;exact g3 q u (by simpa using hq)
      · cases h
    · cases h
  · cases h
theorem q_convert (hΘ:TabOk P Θ) (hf:Fr s a w S γ) {src dst e:TypeId} {x:Operand} {i j je:TI} {c:SV} {ys:List D} {b:List UInt8} (ho:op.op=.convert src dst x) (hi:Θ src=some i) (hj:Θ dst=some j) (hik:i.k=.slice e) (hjk:j.k=.str) (hje:Θ e=some je) (hjek:je.k=.int .u8)
    (hx0:ev s.sl x=c) (hs:srcN s.o 1 c=some ys) (hb:byteL ys=some b):Done w S γ s.o s.nk ((execOp a.eval op).run P w) (.d (.str b)) s.o s.nk:=by
  have hx:=hf.ev x;rw [hx0] at hx;have hrun:(execOp a.eval op).run P w=((convert src dst (a.eval x)).run P w).andThen fun u w'=>.ok (.value u) w':=by simp [execOp,ho]
  generalize a.eval x=ux at hx hrun;obtain ⟨vs,h1,h2,h3,h4,hlm⟩:=(srcN_ok hf.sto hx hs).out;obtain ⟨ns,rfl,rfl⟩:=byteL_rd hb h1 h2;have hcv:∀ A n c,(convert src dst (.slice A n c)).run P w=(Conv.bytesToString (.slice A n c)).run P w:=fun A n c=>run_convert_bytes_string w src dst e A n c ((hΘ src i hi).slice hik) ((hΘ e je hje).int hjek) ((hΘ dst j hj).str hjk);refine Done.now hf.sto (u:=.string ⟨(ns.map fun n=>UInt8.ofNat n.toNat).toArray⟩) ?_ (.d _ _ (.str _ (by simpa using hlm))) trivial;rcases h4 with ⟨c,rfl,h5⟩ | ⟨ad,c,rfl,h5⟩
  · have:ns=[]:=by simpa using h5
    subst this;rw [hrun,hcv];simp [Conv.bytesToString];rfl
  · rw [hrun,hcv];have hld:=run_loadCells_list (P:=P) w ad (ns.map (Value.int .u8)) (fun j u hu=>by
      rw [← cells_ints] at hu;exact h5 j u hu)
    rw [List.length_map] at hld ⊢;rw [run_bytesToString w ad _ c ns hld,foldl_bytes];simp [ByteArray.empty,ByteArray.emptyWithCapacity];rfl
theorem nQ_sound (hΘ:TabOk P Θ) (hf:Fr s a w S γ) {v:SV} (h:nQ Θ op.op (ev s.sl) s.o=some v):Done w S γ s.o s.nk ((execOp a.eval op).run P w) v s.o s.nk:=by
 generalize ho:op.op=o0 at h;cases o0 with
 | load t x=>
  simp only [nQ] at h;split at h
  ·rename_i i q j f hi hx;split at h
   ·rename_i e z xs hq;split at h
    ·rename_i x0 hj;obtain ⟨y,hy,rfl⟩:=Option.map_eq_some_iff.1 h;exact q_load hΘ hf ho hi hx hq hj hy
    ·cases h
   ·cases h
  ·cases h
 | nilCheck x=>
  simp only [nQ] at h;split at h
  ·rename_i q j f hx;split at h
   ·rename_i e z xs hq;simp only [Option.some.injEq] at h;subst h;exact q_nc hf ho hx hq
   ·cases h
  ·cases h
 | slice t x lo hi mx=>exact q_slice hΘ hf ho h
 | field t x f=>
  simp only [nQ] at h;split at h
  ·rename_i i cs hi hx;split at h
   ·rename_i fs hk;split at h
    ·rename_i off ft hfd;split at h
     ·rename_i j hj;exact q_field hΘ hf ho hi hk hfd hj hx h
     ·cases h
    ·cases h
   ·cases h
  ·cases h
 | indexAddr t x ix=>
  simp only [nQ] at h;split at h
  ·rename_i i k m hi hy;split at h
   ·rename_i e hk;split at h
    ·rename_i j hj;split at h
     ·rename_i q l n c hx;split at h
      ·rename_i r hr;split at h
       ·rename_i hc;simp only [Option.some.injEq] at h;subst h;exact q_index hΘ hf ho hi hk hj hy hx hr hc.1 hc.2
       ·cases h
      ·cases h
     ·rename_i z xs hx;split at h
      ·rename_i hc;obtain ⟨y,hy2,rfl⟩:=Option.map_eq_some_iff.1 h;exact q_indexD hΘ hf ho hi hk hj hy hx hc.1 hc.2 hy2
      ·cases h
     ·cases h
    ·cases h
   ·cases h
  ·cases h
 | call c=>
  obtain ⟨callee,args,ts⟩:=c;have h':=h;simp only [nQ] at h;split at h
  ·rename_i x t ha ht;have e1:args=#[x]:=by apply Array.ext';simpa using ha
   have e2:ts=#[t]:=by apply Array.ext';simpa using ht
   subst e1;subst e2;exact q_len hΘ hf ho h'
  ·cases h
 | build t parts=>exact q_build hΘ hf ho h
 | convert src dst x=>
  simp only [nQ] at h;split at h
  ·rename_i i j hi hj;split at h
   ·rename_i e hik hjk;split at h
    ·rename_i je hje;split at h
     ·rename_i ys hjek hs;obtain ⟨b,hb,rfl⟩:=Option.map_eq_some_iff.1 h;split at hs
      ·rename_i hx;exact q_convert hΘ hf ho hi hj hik hjk hje hjek hx hs hb
      ·rename_i hx;exact q_convert hΘ hf ho hi hj hik hjk hje hjek hx hs hb
      ·cases hs
     ·cases h
    ·cases h
   ·cases h
  ·cases h
 | index t x ix=>
  simp only [nQ] at h;split at h
  ·rename_i i xs k m hi hx hy;split at h
   ·rename_i n e hk;split at h
    ·rename_i j hj;split at h
     ·rename_i hc;obtain ⟨y,hy2,rfl⟩:=Option.map_eq_some_iff.1 h;exact q_ix hΘ hf ho hi hk hj hy hx hc.1 hc.2 hy2
     ·cases h
    ·cases h
   ·cases h
  ·rename_i i cs k m hi hx hy;split at h
   ·rename_i n e hk;split at h
    ·rename_i j hj;split at h
     ·rename_i hc;exact q_ag hΘ hf ho hi hk hj hy hx hc.1 hc.2.1 hc.2.2.1 hc.2.2.2 h
     ·cases h
    ·cases h
   ·cases h
  ·cases h
 | binOp b t x y u=>exact q_bin hΘ hf ho h
 | lookup t m x b=>exact q_lookup hΘ hf ho h
 | _=>simp [nQ] at h
end
end Go.Proofs.Ytpkcbdhjnnnkbaa.Abs
