/- Part 2 of the proof that DeltaTwice: called with any value and any changes that hold together at most 1048576 values and letters, the law answers true, and both read afterwards as they read before. -/
import Derived.Test.YtpkcbdhjnnnkbaaMDeltaTwice1
import Derived.Laws.MakeOwn
import Derived.ArgAppend
import Derived.Orders
import Derived.Laws.BitsLemmas
import Derived.Scope
set_option linter.unusedSimpArgs false
set_option linter.unusedVariables false
namespace Go.Proofs.Ytpkcbdhjnnnkbaa.Abs
open Go
def upds (o:Nat→Option AO):List (Nat×Option AO)→Nat→Option AO
 | []=>o
 | (k,x) :: r=>upds (upd o k x) r
def zLen (i:TI):Bool:=
 match i.z with
 | some l=>decide (l.length=i.sz)
 | none=>false
theorem zLen_ok {i:TI} (h:zLen i=true):∃ l,i.z=some l∧l.length=i.sz:=by
 unfold zLen at h;split at h
 ·rename_i l hl;exact ⟨l,hl,by simpa using h⟩
 ·cases h
def natV:SV→Option Nat
 | .d (.int _ n)=>if 0≤n∧n≤9223372036854775807 then some n.toNat else none
 | _=>none
def killL:Option Nat→List (Nat×Option AO)
 | none=>[]
 | some q=>[(q,none)]
theorem killL_upds (o:Nat→Option AO) (q:Option Nat) (k:Nat) (x:Option AO):upds o (killL q++[(k,x)])=upd (killo o q) k x:=by cases q <;> rfl
def nW0 (Θ:Tab) (op:Op) (ev:Operand→SV) (o:Nat→Option AO) (nk:Nat):Option (SV×List (Nat×Option AO)×Nat):=
  match op with
  | .store t x y=>match Θ t,ev x with
    | some i,.rel q j f=>match o q with
      | some (.row e z xs)=>match xs[j]?,(match (ev y).cells o with
          | some cs=>allD cs
          | none=>none) with
        | some x0,some ys=>if ys.length=i.sz then match x0.put f ys with
            | some x1=>some (.any,[(q,some (.row e z (xs.take j++[x1]++xs.drop (j+1))))],nk)
            | none=>none
          else none
        | _,_=>none
      | _=>none
    | _,_=>none
  | .makeMap t r=>match Θ t with
    | some i=>match i.k with
      | .map _ _=>match (match r with
          | none=>some 0
          | some x=>natV (ev x)) with
        | some _=>some (.raw nk,[(nk,some (.raw (.map [])))],nk+1)
        | none=>none
      | _=>none
    | none=>none
  | .mapUpdate t m x y=>match Θ t with
    | some i=>match i.k with
      | .map kt _=>match Θ kt,ev m,ev x,(ev y).soft with
        | some j,.raw q,.d k,.d v=>match o q with
          | some (.raw (.map kvs))=>if keysOk j.k k kvs=true then
              match kfind k kvs 0 with
              | some (i,_)=>some (.any,[(q,some (.raw (.map (kvs.set i (k,v)))))],nk)
              | none=>some (.any,[(q,some (.raw (.map (kvs++[(k,v)]))))],nk)
            else none
          | _=>none
        | _,_,_,_=>none
      | _=>none
    | none=>none
  | .makeSlice t l c=>match Θ t with
    | some i=>match i.k with
      | .slice e=>match Θ e with
        | some j=>match zD j,natV (ev l),natV (ev c) with
          | some z,some l,some c=>if l≤c∧c * j.sz≤16777216∧j.bys * c≤281474976710656∧0 < j.sz∧z.width=j.sz then some (.row nk,[(nk,some (.row e j.sz (List.replicate l z)))],nk+1) else none
          | _,_,_=>none
        | none=>none
      | _=>none
    | none=>none
  | .call c=>match c.callee,c.args.toList,c.argTypes.toList with
    | .builtin .append,[x,y],[t,u]=>match Θ t with
      | some i=>match i.k with
        | .slice e=>match Θ e with
          | some j=>match zD j,(if u=t then srcN o j.sz (ev y) else none) with
            | some zz,some ys=>if 0 < j.sz∧zLen j=true then match ev x with
              | .dx z xs=>if z=j.sz then
                  match ys with
                  | []=>some (.dx z xs,[],nk)
                  | _ :: _=>if xs.length+ys.length≤9223372036854775807∧(xs.length+ys.length) * j.bys≤140737488355328 then some (.row nk,[(nk,some (.row e j.sz (xs++ys)))],nk+1) else none
                else none
              | .view q l n c=>match o q,viewOf o j.sz (.view q l n c) with
                | some (.row e' z' xs),some _=>match ys with
                  | []=>some (.view q l n c,[],nk)
                  | _ :: _=>if e'=e∧c=.full∧l+n+ys.length≤xs.length then some (.view q l (n+ys.length) .full,[(q,some (.row e j.sz (xs.take (l+n)++ys++xs.drop (l+n+ys.length))))],nk)
                    else if e'=e∧c=.full∧l=0∧n+ys.length≤9223372036854775807∧(n+ys.length) * j.bys≤140737488355328 then some (.row nk,[(q,none),(nk,some (.row e j.sz (xs.take n++ys)))],nk+1)
                    else none
                | _,_=>none
              | c=>match dstOf o e j.sz c with
                | some (q,xs)=>if xs.length+ys.length≤9223372036854775807∧(xs.length+ys.length) * j.bys≤140737488355328 then some (.row nk,killL q++[(nk,some (.row e j.sz (xs++ys)))],nk+1) else none
                | none=>none
              else none
            | _,_=>none
          | none=>none
        | _=>none
      | none=>none
    | .builtin .clear,[x],[t]=>match Θ t with
      | some i=>match i.k with
        | .slice e=>match Θ e with
          | some j=>match zD j,viewOf o j.sz (ev x) with
            | some zz,some (q,l,n,_,xs)=>if zz.width=j.sz then match o q with
                | some (.row e' _ _)=>some (.tup [],[(q,some (.row e' j.sz (xs.take l++List.replicate n zz++xs.drop (l+n))))],nk)
                | _=>none
              else none
            | _,_=>none
          | none=>none
        | _=>none
      | none=>none
    | .builtin .copy,[x,y],(t :: _)=>match Θ t with
      | some i=>match i.k with
        | .slice e=>match Θ e with
          | some j=>match viewOf o j.sz (ev x),srcN o j.sz (ev y) with
            | some (q,l,n,_,xs),some ys=>match o q with
              | some (.row e' _ _)=>match ys.take n with
                | zs=>some (.d (.int .i64 zs.length),[(q,some (.row e' j.sz (xs.take l++zs++xs.drop (l+zs.length))))],nk)
              | _=>none
            | _,_=>none
          | none=>none
        | _=>none
      | none=>none
    | .builtin .delete,[m,x],(t :: _)=>match Θ t with
      | some i=>match i.k with
        | .map kt _=>match Θ kt,ev m,ev x with
          | some j,.raw q,.d k=>match o q with
            | some (.raw (.map kvs))=>if keysOk j.k k kvs=true then
                match kfind k kvs 0 with
                | some (i,_)=>some (.tup [],[(q,some (.raw (.map (kvs.eraseIdx i))))],nk)
                | none=>some (.tup [],[],nk)
              else none
            | _=>none
          | _,_,_=>none
        | _=>none
      | none=>none
    | _,_,_=>none
  | _=>none
theorem nW0_congr {Θ:Tab} {op:Op} {ev ev':Operand→SV} {o:Nat→Option AO} {nk:Nat} (h:∀ x∈op.operands,ev x=ev' x):nW0 Θ op ev o nk=nW0 Θ op ev' o nk:=by
 cases op <;> simp only [nW0]
 case store t x y=>rw [h x (by simp [Op.operands]),h y (by simp [Op.operands])]
 case makeMap t r=>
  cases r with
  | none=>rfl
  | some x=>
   have:=h x (by simp [Op.operands]);simp only [this]
 case mapUpdate t m x y=>rw [h m (by simp [Op.operands]),h x (by simp [Op.operands]),h y (by simp [Op.operands])]
 case makeSlice t l c=>rw [h l (by simp [Op.operands]),h c (by simp [Op.operands])]
 case call c=>
  obtain ⟨callee,args,ts⟩:=c;have hm:∀ x∈args.toList,ev x=ev' x:=fun x hx=>h x (by simp [Op.operands,Call.operands];right;simpa using hx);simp only;split
  ·rename_i x y t u ha _;rw [hm x (by rw [ha];simp),hm y (by rw [ha];simp)]
  ·rename_i x t ha _;rw [hm x (by rw [ha];simp)]
  ·rename_i x y t _ ha _;rw [hm x (by rw [ha];simp),hm y (by rw [ha];simp)]
  ·rename_i m x t _ ha _;rw [hm m (by rw [ha];simp),hm x (by rw [ha];simp)]
  ·rfl
theorem range_rep (z:Array Value) (n:Nat):((Array.range (n * z.size)).map fun i=>z[i % z.size]!).toList=(List.replicate n z.toList).flatten:=by
 have key:∀ n,(List.range (n * z.size)).map (fun i=>z[i % z.size]!)=(List.replicate n z.toList).flatten:=by
  intro n
  induction n with
  | zero=>simp
  | succ n ih=>
   rw [Nat.add_mul,Nat.one_mul,List.range_add,List.map_append,ih,List.replicate_succ',List.flatten_append,List.map_map];congr 1;simp only [List.flatten_cons,List.flatten_nil,List.append_nil];apply List.ext_getElem
   ·simp
   ·intro i h1 h2;simp only [List.length_map,List.length_range] at h1;simp only [List.getElem_map,List.getElem_range,Function.comp];have:(n * z.size+i) % z.size=i:=by rw [Nat.add_comm,Nat.add_mul_mod_self_right,Nat.mod_eq_of_lt h1]
    rw [this];simp [h1]
 rw [← key n];simp
theorem cells_rep (zv:Value) (n:Nat):(List.replicate n zv.cells.toList).flatten=cellsOf (List.replicate n zv):=by
 induction n with
 | zero=>rfl
 | succ n ih=>simp only [List.replicate_succ,List.flatten_cons,cellsOf_cons,ih]
theorem zeros_list (zv:Value) (n:Nat):(Builtin.zeroCells zv.cells n).toList=cellsOf (List.replicate n zv):=by
 rw [← cells_rep,← range_rep];rfl
theorem made_list (zv:Value) (n:Nat):(madeCells zv.cells (n * zv.cells.size)).toList=cellsOf (List.replicate n zv):=by
 rw [← cells_rep,← range_rep];rfl
section
variable {P:Program} {Θ:Tab} {s:St} {a:Act} {w:World} {S:Nat→Prop} {γ:Nat→Value} {op:Oper}
theorem put_ok {x x1:D} {f:Nat} {ys:List D} {v:Value} {vals:List Value} (h:Rd w S x v) (hp:x.put f ys=some x1) (hl:vals.length=ys.length) (hy:∀ (i:Nat) (y:D) (u:Value),ys[i]?=some y→vals[i]?=some u→Rd w S y u) :
    ∃ v1,Rd w S x1 v1∧v1.cells.toList=v.cells.toList.take f++vals++v.cells.toList.drop (f+vals.length)∧v1.cells.size=v.cells.size∧f+vals.length≤v.cells.size:=by
  unfold D.put at hp;split at hp
  · rename_i cs;split at hp
    · rename_i hc;simp only [Option.some.injEq] at hp;subst hp;cases h with
      | agg _ vs h1 h2 h3=>
        refine ⟨.agg (vs.take f++vals++vs.drop (f+vals.length)).toArray,.agg _ _ ?_ ?_ ?_,?_,?_,?_⟩
        · rw [List.all_append,List.all_append,Bool.and_eq_true,Bool.and_eq_true];exact ⟨⟨List.all_eq_true.2 fun x hx=>List.all_eq_true.1 h1 x (List.mem_of_mem_take hx),hc.2⟩,List.all_eq_true.2 fun x hx=>List.all_eq_true.1 h1 x (List.mem_of_mem_drop hx)⟩
        · simp [h2,hl]
        · intro i x u q1 q2;by_cases hi1:i < f
          · rw [List.append_assoc,List.getElem?_append_left (by simp;omega),List.getElem?_take,if_pos hi1] at q1 q2;exact h3 i x u q1 q2
          · by_cases hi2:i < f+vals.length
            · rw [List.append_assoc,List.getElem?_append_right (by simp;omega),List.getElem?_append_left (by simp;omega)] at q1 q2;simp only [List.length_take,Nat.min_eq_left (show f≤cs.length by omega)] at q1;simp only [List.length_take,Nat.min_eq_left (show f≤vs.length by omega)] at q2;exact hy _ x u q1 q2
            · rw [List.getElem?_append_right (by simp;omega),List.getElem?_drop] at q1 q2;simp only [List.length_append,List.length_take,Nat.min_eq_left (show f≤cs.length by omega)] at q1;simp only [List.length_append,List.length_take,Nat.min_eq_left (show f≤vs.length by omega)] at q2;rw [show f+ys.length+(i - (f+ys.length))=i by omega] at q1;rw [show f+vals.length+(i - (f+vals.length))=i by omega] at q2;exact h3 i x u q1 q2
        · simp [Value.cells]
        · simp [Value.cells,h2,hl];omega
        · simp [Value.cells,h2,hl];omega
    · cases hp
  · rename_i hx;have hxl:x.leaf=true:=by cases x <;> first | rfl | exact absurd rfl (hx _)
    have hcl:=h.leaf_cells hxl;split at hp
    · rename_i y;split at hp
      · rename_i hyl;simp only [Option.some.injEq] at hp;subst hp
        match vals,hl with
        | [u],_=>
          have hr:=hy 0 _ _ rfl rfl;exact ⟨u,hr,by rw [hr.leaf_cells hyl,hcl];simp,by rw [hr.leaf_cells hyl,hcl];rfl,by rw [hcl];simp⟩
      · cases hp
    · cases hp
theorem append_own (hΘ:TabOk P Θ) {o:Nat→Option AO} {nk:Nat} (hs:Sto w S γ o nk) {ux uy:Value} {t e ty:TypeId} {i j:TI} {l:List D} {q:Option Nat} {xs ys:List D} (hi:Θ t=some i) (hk:i.k=.slice e) (hj:Θ e=some j) (hz:j.z=some l) (hll:l.length=j.sz) (hpos:0 < j.sz)
    (hR:RowAt w S ux e j.sz xs) (hq1:∀ t,q=some t→∃ x,o t=some x∧ux.ownBlock=blk (γ t)) (hq2:q=none→ux.ownBlock=none) (hsrc:Src w S uy j.sz ys) (h63:xs.length+ys.length≤9223372036854775807) (hby:(xs.length+ys.length) * j.bys≤140737488355328) :
    ∃ v' w' γ',(Builtin.append_ #[t,t] ty #[ux,uy]).run P w=.ok v' w'∧Sto w' S γ' (upd (killo o q) nk (some (.row e j.sz (xs++ys)))) (nk+1)∧Tr w S γ o nk w' S γ' (upd (killo o q) nk (some (.row e j.sz (xs++ys)))) (nk+1)∧γ' nk=v':=by
  obtain ⟨ti,zv,hti,hzv,hlv⟩:=zero_lv hΘ (w:=w) (S:=S) hj hz;have hu:=(hΘ t i hi).slice hk;obtain ⟨x',hx1,hx2,hx3⟩:=(hΘ e j hj).info;have hxx:x'=ti:=by rw [hx1] at hti;exact Option.some.inj hti
  subst hxx;obtain ⟨vs,hown,hvl,hvr,hvz⟩:=hR.out;have fin:∀ (v':Value) (w':World) (vs':List Value),(Builtin.append_ #[t,t] ty #[ux,uy]).run P w=.ok v' w'→w'.ownsRow 0 e j.sz v' (xs.length+ys.length) (cellsOf (vs++vs'))→w.grownBy w' ux.ownBlock→
      (v'.ownBlock=ux.ownBlock∨v'.ownBlock=some w.heap.size)→vs'.length=ys.length→(∀ (i:Nat) (x:D) (u:Value),ys[i]?=some x→vs'[i]?=some u→Rd w S x u)→(∀ (i:Nat) (u:Value),vs'[i]?=some u→u.cells.size=j.sz)→
      ∃ v' w' γ',(Builtin.append_ #[t,t] ty #[ux,uy]).run P w=.ok v' w'∧Sto w' S γ' (upd (killo o q) nk (some (.row e j.sz (xs++ys)))) (nk+1)∧Tr w S γ o nk w' S γ' (upd (killo o q) nk (some (.row e j.sz (xs++ys)))) (nk+1)∧γ' nk=v':=by
    intro v' w' vs' hr ho' hg hat hl' hr' hz';have hSk:∀ k,S k→w'.heap[k]?=w.heap[k]?:=fun k hS=>hg.block k (hs.s_lt k hS) fun e0=>by
      cases q with
      | none=>rw [hq2 rfl] at e0;cases e0
      | some t0=>
        obtain ⟨x0,h1,h2⟩:=hq1 t0 rfl;exact (hs.away t0 x0 k h1 (by rw [← h2,e0])).1 hS
    have hblk:blk v'=v'.ownBlock:=by
      rcases ho'.2 with ⟨k1,_⟩ | ⟨g,cap,cur,k1,_⟩ <;> rw [k1] <;> rfl
    obtain ⟨m1,m2⟩:=hs.put_row (w':=w') q (v:=v') (e:=e) (z:=j.sz) (xs:=xs++ys) ux.ownBlock hq1 hq2 hg.os hg.tape hg.output hg.size hg.block
      ⟨vs++vs',by rw [List.length_append];exact ho',by simp [hvl,hl'],fun i x u h1 h2=>by
        by_cases hlt:i < xs.length
        · rw [List.getElem?_append_left hlt] at h1;rw [List.getElem?_append_left (by omega)] at h2;exact (hvr i x u h1 h2).mono (fun _ h=>h) hSk
        · rw [List.getElem?_append_right (by omega)] at h1;rw [List.getElem?_append_right (by omega),hvl] at h2;exact (hr' _ x u h1 h2).mono (fun _ h=>h) hSk,fun i u h2=>by
        by_cases hlt:i < vs.length
        · rw [List.getElem?_append_left hlt] at h2;exact hvz i u h2
        · rw [List.getElem?_append_right (by omega)] at h2;exact hz' _ u h2⟩ (fun g hg'=>by
        rw [hblk] at hg';have hlt:=(ho'.lt g hg').2;refine ⟨hlt,?_⟩;rcases hat with h1 | h1
        · right;rw [← h1,hg']
        · left;rw [hg'] at h1;injection h1 with h1;omega)
    exact ⟨v',w',_,hr,m1,m2,upd_same _ _ _⟩
  have hzs:zv.cells.size=j.sz:=by rw [hlv.1];exact hll
  obtain ⟨vs',h1,h2,h3,h4,_⟩:=hsrc.out;rcases h4 with ⟨c,rfl,rfl⟩ | ⟨ad,c,rfl,h4⟩
  · have hys:ys=[]:=List.eq_nil_of_length_eq_zero (by simpa using h1.symm);subst hys;exact fin ux w [] (run_append_nothing (P:=P) hu hx1 hown c) (by simpa using hown) ⟨rfl,rfl,rfl,Nat.le_refl _,fun _ _ _=>rfl⟩ (.inl rfl) rfl (by simp) (by simp)
  · obtain ⟨v',w',hr,ho',hg,_,hat⟩:=run_append_own_at (P:=P) w 0 t ty e x' zv j.sz j.bys hu hx1 hzv hx2 hx3 hzs hpos ux xs.length (cellsOf vs) hown ad vs'.length c (cellsOf vs')
      (cellsOf_length h3) h4 (fun v hv=>by
        obtain ⟨p,hp⟩:=List.getElem?_of_mem hv;obtain ⟨i,jj,q',k1,k2,_⟩:=cellsOf_get h3 p v hp;have hlt:i < ys.length:=by rw [← h1];exact (List.getElem?_eq_some_iff.1 k1).1
        exact (h2 i _ q' (List.getElem?_eq_getElem hlt) k1).cells_one jj v k2)
      (by simp only [maxLen];omega) (by rw [h1];exact hby) (Nat.zero_le _)
    refine fin v' w' vs' hr ?_ hg hat h1 h2 h3;rw [cellsOf_append,← h1];exact ho'
theorem w_store2 (hΘ:TabOk P Θ) (hf:Fr s a w S γ) {t:TypeId} {x y:Operand} {r:SV×List (Nat×Option AO)×Nat} (ho:op.op=.store t x y) (h:nW0 Θ (.store t x y) (ev s.sl) s.o s.nk=some r) :
    Done w S γ s.o s.nk ((execOp a.eval op).run P w) r.1 (upds s.o r.2.1) r.2.2:=by
  have hrun:(execOp a.eval op).run P w=((Instr.storeAt t (a.eval x) (a.eval y)).run P w).andThen fun _ w'=>.ok .skip w':=by simp [execOp,ho]
  have hx:=hf.ev x;have hy:=hf.ev y;have hly:=hf.lt y;simp only [nW0] at h;split at h
  · rename_i i q j f hi hxe;rw [hxe] at hx;split at h
    · rename_i e z xs hq;split at h
      · rename_i x0 ys hj hys;split at h
        · rename_i hlen;split at h
          · rename_i x1 hput;simp only [Option.some.injEq] at h;subst h;split at hys
            · rename_i cs hcs;obtain ⟨c1,c2,c3,_⟩:=SV.cells_sr hf.sto hy hly hcs;have hcy:=allD_spec hys;subst hcy;obtain ⟨vs,hR⟩:=(hf.sto.row _ _ _ _ hq).get;generalize a.eval x=ux at hx hrun;generalize a.eval y=uy at c1 c2 c3 hrun;have hjl:j < xs.length:=(List.getElem?_eq_some_iff.1 hj).1;have hvl:=hR.len;have hvj:vs[j]?=some (vs[j]'(by omega)):=List.getElem?_eq_getElem _;have hus:uy.cells.toList.length=ys.length:=by rw [Array.length_toList];simpa using c1
              obtain ⟨v1,r1,r2,r3,r4⟩:=put_ok (vals:=uy.cells.toList) (hR.rd _ _ _ hj hvj) hput hus (fun k y u h1 h2=>by
                have:=c2 k (.d y) u (by rw [List.getElem?_map,h1];rfl) (by simpa using h2);cases this with
                | d _ _ h=>exact h)
              cases hx with
              | rel _ _ _ _ hv=>
                obtain ⟨g,n,c,k1,rfl⟩:=hv _ _ _ hq;have hγ:γ q=.slice (some ⟨g,0,none⟩) xs.length c:=by
                  rcases hR.blk with ⟨h2,_⟩ | ⟨g',cap,cur,h2,_⟩
                  · rw [k1] at h2;cases h2
                  · rw [k1] at h2;simp only [Value.slice.injEq] at h2;rw [k1,h2.2.1]
                have hB:(vs.drop j).take 1=[vs[j]'(by omega)]:=by rw [List.drop_eq_getElem_cons (by omega)];rfl
                have hcell1:∀ u:Value,cellsOf [u]=u.cells.toList:=fun u=>by simp [cellsOf]
                have hzj:=hR.sz _ _ hvj;obtain ⟨m1,m2,m3⟩:=hR.write (P:=P) hf.sto hq hγ (a:=j) (f:=f) (us:=[v1]) (ys:=[x1]) (vals:=uy.cells.toList) (by simp;omega) rfl (fun k x u h1 h2=>by
                    match k with
                    | 0=>simp at h1 h2;subst h1;subst h2;exact r1
                    | k+1=>simp at h1) (fun k u h2=>by
                    match k with
                    | 0=>simp at h2;subst h2;rw [r3,hzj]
                    | k+1=>simp at h2) (by
                    simp only [List.length_cons,List.length_nil,Nat.zero_add,hB,hcell1];exact r2) (by simp only [List.length_cons,List.length_nil,Nat.zero_add,Nat.one_mul];omega) c3
                refine ⟨undef,_,S,γ,.inr ⟨?_,rfl⟩,m2,m3,.any _,trivial⟩;rw [hrun];have:uy.cells.size=i.sz:=by rw [← hlen,← hus];simp
                simp [Instr.storeAt,Instr.sureAddr,storeVar,(hΘ t i hi).run_size,this,m1]
            · cases hys
          · cases h
        · cases h
      · cases h
    · cases h
  · cases h
theorem w_makeMap (hΘ:TabOk P Θ) (hf:Fr s a w S γ) {t:TypeId} {x:Option Operand} {r:SV×List (Nat×Option AO)×Nat} (ho:op.op=.makeMap t x) (h:nW0 Θ (.makeMap t x) (ev s.sl) s.o s.nk=some r) :
    Done w S γ s.o s.nk ((execOp a.eval op).run P w) r.1 (upds s.o r.2.1) r.2.2:=by
  simp only [nW0] at h;split at h
  · rename_i i hi;split at h
    · rename_i kt e hk;split at h
      · rename_i n hn;simp only [Option.some.injEq] at h;subst h;obtain ⟨k1,k2⟩:=hf.sto.new_raw (.map #[] 0) (.map []) ⟨#[],0,alloc_new _ _,rfl,by simp,by simp,by simp⟩ (v:=.map (some w.heap.size)) rfl;refine ⟨.map (some w.heap.size),_,S,_,.inl ?_,k1,k2,.raw _ _ fun ob hob=>(upd_same _ _ _).symm,Nat.lt_succ_self _⟩;cases x with
        | none=>simp [execOp,ho,Instr.makeMap]
        | some y=>
          simp only at hn;have hy:=hf.ev y;unfold natV at hn;split at hn
          · rename_i k m hm;rw [hm] at hy;generalize hu:a.eval y=uy at hy;cases hy with
            | d _ _ hr=>cases hr with
              | int=>simp [execOp,ho,Instr.makeMap,run_underlying ((hΘ t i hi).map hk),hu,asInt,asIntOf]
          · cases hn
      · cases h
    · cases h
  · cases h
theorem map_at (hs:Sto w S γ s.o s.nk) {q:Nat} {kvs:List (D×D)} {v:Value} (hq:s.o q=some (.raw (.map kvs))) (h:SR w S γ s.o (.raw q) v):∃ g es clk,v=.map (some g)∧blk (γ q)=some g∧w.heap[g]?=some (.map es clk)∧MapRd w S kvs es.toList clk:=by
 cases h with
 | raw _ _ hv=>
  obtain ⟨g,h1,es,clk,h2,h3⟩:=(hs.raw _ _ hq).out;have h1':γ q=.map (some g):=h1;exact ⟨g,es,clk,by rw [hv _ hq,h1'],by rw [h1'];rfl,h2,h3⟩
theorem map_set (hs:Sto w S γ s.o s.nk) {q g:Nat} {kvs kvs':List (D×D)} {es es':Array MapEntry} {clk clk':Nat} (hq:s.o q=some (.raw (.map kvs))) (hg:blk (γ q)=some g) (hw:w.heap[g]?=some (.map es clk)) (hm:MapRd w S kvs' es'.toList clk') :
    (setObj g (.map es' clk')).run P w=.ok () { w with heap:=w.heap.setIfInBounds g (.map es' clk') }∧
    Sto { w with heap:=w.heap.setIfInBounds g (.map es' clk') } S γ (upd s.o q (some (.raw (.map kvs')))) s.nk∧Tr w S γ s.o s.nk { w with heap:=w.heap.setIfInBounds g (.map es' clk') } S γ (upd s.o q (some (.raw (.map kvs')))) s.nk:=by
  have hoth:∀ k,k≠g→({ w with heap:=w.heap.setIfInBounds g (.map es' clk') }:World).heap[k]?=w.heap[k]?:=fun j hj=>by simp [Array.getElem?_setIfInBounds_ne (Ne.symm hj)]
  have hSg:∀ k,S k→k≠g:=fun k hk e=>(hs.away q _ g hq hg).1 (e ▸ hk);obtain ⟨k1,k2⟩:=hs.set_raw (w':={ w with heap:=w.heap.setIfInBounds g (.map es' clk') }) (ob0:=.map kvs) (ob:=.map kvs') rfl hq hg
    ⟨es',clk',by show (w.heap.setIfInBounds g _)[g]?=_;simp [(Array.getElem?_eq_some_iff.1 hw).1],hm.len,fun i kv e h1 h2=>⟨(hm.rd i kv e h1 h2).1.mono (fun _ h=>h) fun k hk=>hoth k (hSg k hk),(hm.rd i kv e h1 h2).2.mono (fun _ h=>h) fun k hk=>hoth k (hSg k hk)⟩,hm.born,hm.apart⟩ hoth ⟨rfl,rfl,rfl,by simp⟩
  exact ⟨by simp [setObj,Sem.run,hw],k1,k2⟩
theorem w_mapUpdate (hΘ:TabOk P Θ) (hf:Fr s a w S γ) {t:TypeId} {m x y:Operand} {r:SV×List (Nat×Option AO)×Nat} (ho:op.op=.mapUpdate t m x y) (h:nW0 Θ (.mapUpdate t m x y) (ev s.sl) s.o s.nk=some r) :
    Done w S γ s.o s.nk ((execOp a.eval op).run P w) r.1 (upds s.o r.2.1) r.2.2:=by
  have hm:=hf.ev m;have hx:=hf.ev x;have hy:=hf.ev y;have hrun:(execOp a.eval op).run P w=((Instr.mapUpdate t (a.eval m) (a.eval x) (a.eval y)).run P w).andThen fun _ w'=>.ok .skip w':=by simp [execOp,ho]
  simp only [nW0] at h;split at h
  · rename_i i hi;split at h
    · rename_i kt e hk;split at h
      · rename_i j q k v hj hme hxe hye;have hy:=hy.soft;rw [hme] at hm;rw [hxe] at hx;rw [hye] at hy;split at h
        · rename_i kvs hq;split at h
          · rename_i hok;generalize a.eval m=um at hm hrun;generalize a.eval x=ux at hx hrun;generalize a.eval y=uy at hy hrun;obtain ⟨g,es,clk,rfl,hg,hw,hmr⟩:=map_at hf.sto hq hm;cases hx with
            | d _ _ hxr=>cases hy with
              | d _ _ hyr=>
                obtain ⟨k1,k2⟩:=find_k (P:=P) (hΘ kt j hj) hok hxr hmr;have hgo:(getObj g).run P w=.ok (.map es clk) w:=by simp [getObj,Sem.run,hw]
                split at h
                · rename_i i0 d0 hfd;simp only [Option.some.injEq] at h;subst h;rw [hfd] at k2;obtain ⟨e0,e1,⟨k',_,_,hsb⟩,e2,e3⟩:=k2;have hil:i0 < es.size:=(Array.getElem?_eq_some_iff.1 e1).1;have hlist:(es.modify i0 fun e=>{ e with key:=ux,val:=uy }).toList=es.toList.modify i0 fun e=>{ e with key:=ux,val:=uy }:=by simp
                  have hnew:MapRd w S (kvs.set i0 (k,v)) (es.modify i0 fun e=>{ e with key:=ux,val:=uy }).toList clk:=by
                    rw [hlist];refine ⟨by simp [hmr.len],fun p kv e h1 h2=>?_,fun e he=>?_,?_⟩
                    · rw [List.getElem?_modify] at h2;obtain ⟨e',he',rfl⟩:=Option.map_eq_some_iff.1 h2;by_cases hp:i0=p
                      · subst hp;rw [List.getElem?_set_self (by rw [← hmr.len];simpa using hil)] at h1;simp only [Option.some.injEq] at h1;subst h1;simp only [if_true];exact ⟨hxr,hyr⟩
                      · rw [List.getElem?_set_ne hp] at h1;simp only [if_neg hp];exact hmr.rd _ _ _ h1 he'
                    · obtain ⟨p,hp⟩:=List.getElem?_of_mem he;rw [List.getElem?_modify] at hp;obtain ⟨e',he',rfl⟩:=Option.map_eq_some_iff.1 hp;have:=hmr.born _ (List.mem_of_getElem? he');split <;> exact this
                    · have hb:(es.toList.modify i0 fun e=>{ e with key:=ux,val:=uy }).map (·.born)=es.toList.map (·.born):=by
                        apply List.ext_getElem?;intro p;rw [List.getElem?_map,List.getElem?_map,List.getElem?_modify];cases es.toList[p]? with
                        | none=>rfl
                        | some e'=>simp only [Option.map_some];split <;> rfl
                      have h1:((es.toList.modify i0 fun e=>{ e with key:=ux,val:=uy }).map (·.born)).Pairwise (·≠·):=by
                        rw [hb];exact List.pairwise_map.2 hmr.apart
                      exact List.pairwise_map.1 h1
                  obtain ⟨m1,m2,m3⟩:=map_set (P:=P) hf.sto hq hg hw hnew;refine ⟨undef,_,S,γ,.inr ⟨?_,rfl⟩,m2,m3,.any _,trivial⟩;rw [hrun];unfold Instr.mapUpdate;simp [run_underlying ((hΘ t i hi).map hk),hgo,k1,e3,e1,Instr.keyThatStays,hsb,m1]
                · rename_i hfd;simp only [Option.some.injEq] at h;subst h;rw [hfd] at k2;have hnew:MapRd w S (kvs++[(k,v)]) (es.push { key:=ux,val:=uy,born:=clk }).toList (clk+1):=by
                    rw [Array.toList_push];refine ⟨by simp [← hmr.len],fun p kv e h1 h2=>?_,fun e he=>?_,?_⟩
                    · by_cases hp:p < kvs.length
                      · rw [List.getElem?_append_left hp] at h1;rw [List.getElem?_append_left (by rw [hmr.len];exact hp)] at h2;exact hmr.rd _ _ _ h1 h2
                      · rw [List.getElem?_append_right (by omega)] at h1;rw [List.getElem?_append_right (by rw [hmr.len];omega),hmr.len] at h2
                        match hq0:p - kvs.length,h1,h2 with
                        | 0,h1,h2=>simp at h1 h2;subst h1;subst h2;exact ⟨hxr,hyr⟩
                        | q+1,h1,h2=>simp at h1
                    · rcases List.mem_append.1 he with he | he
                      · have:=hmr.born e he;omega
                      · simp at he;subst he;exact Nat.lt_succ_self _
                    · rw [List.pairwise_append];refine ⟨hmr.apart,by simp,fun a ha b hb=>?_⟩;simp at hb;subst hb;have:=hmr.born a ha;simp only;omega
                  obtain ⟨m1,m2,m3⟩:=map_set (P:=P) hf.sto hq hg hw hnew;refine ⟨undef,_,S,γ,.inr ⟨?_,rfl⟩,m2,m3,.any _,trivial⟩;rw [hrun];unfold Instr.mapUpdate;simp [run_underlying ((hΘ t i hi).map hk),hgo,k1,k2,m1]
          · cases h
        · cases h
      · cases h
    · cases h
  · cases h
theorem ap_zero {t ty e:TypeId} {ti:TypeInfo} (ht:P.underlying t=some (.slice e)) (hi:P.info? e=some ti) {A B:Option Addr} {n c d:Nat} (hn:n≤c):(Builtin.append_ #[t,t] ty #[.slice A n c,.slice B 0 d]).run P w=.ok (.slice A n c) w:=by
 have hf:(Builtin.firstCells ti.size 0 (.slice B 0 d)).run P w=.ok #[] w:=by
  cases B with
  | none=>simp [Builtin.firstCells]
  | some b=>exact run_firstCells_some (P:=P) w ti.size 0 b 0 d [] (by simp) (by simp)
 cases A <;> simp [Builtin.append_,run_underlying ht,sizeOf,typeInfo,hi,Builtin.lenOf,hn,hf,storeCells]
theorem Src.len {v:Value} {z:Nat} {ys:List D} (h:Src w S v z ys):∃ B d,v=.slice B ys.length d:=by
 obtain ⟨vs,h1,_,_,h4,_⟩:=h.out;rcases h4 with ⟨c,rfl,rfl⟩ | ⟨a,c,rfl,_⟩
 ·exact ⟨none,c,by rw [← h1];rfl⟩
 ·exact ⟨_,_,by rw [h1]⟩
theorem Src.at {v:Value} {z:Nat} {ys:List D} (h:Src w S v z ys) (hy:0 < ys.length):∃ vs a c,v=.slice (some a) vs.length c∧vs.length=ys.length∧(∀ (i:Nat) (x:D) (u:Value),ys[i]?=some x→vs[i]?=some u→Rd w S x u)∧(∀ (i:Nat) (u:Value),vs[i]?=some u→u.cells.size=z)∧
    (∀ (j:Nat) (u:Value),(cellsOf vs)[j]?=some u→w.cell? (a.add j)=some u)∧∀ u∈cellsOf vs,u.oneCell'=true:=by
  obtain ⟨vs,h1,h2,h3,h4,_⟩:=h.out;rcases h4 with ⟨c,rfl,rfl⟩ | ⟨a,c,rfl,h5⟩
  · simp at h1;omega
  · refine ⟨vs,a,c,rfl,h1,h2,h3,h5,fun u hu=>?_⟩;obtain ⟨p,hp⟩:=List.getElem?_of_mem hu;obtain ⟨i,jj,q',k1,k2,_⟩:=cellsOf_get h3 p u hp;have hlt:i < ys.length:=by rw [← h1];exact (List.getElem?_eq_some_iff.1 k1).1
    exact (h2 i _ q' (List.getElem?_eq_getElem hlt) k1).cells_one jj u k2
theorem view_row (hs:Sto w S γ s.o s.nk) {q n e z:Nat} {xs:List D} {v:Value} (hq:s.o q=some (.row e z xs)) (hv:VW z 0 n .full (γ q) v) (hn:n≤xs.length):RowAt w S v e z (xs.take n)∧v.ownBlock=blk (γ q):=by
 obtain ⟨vs,hR⟩:=(hs.row _ _ _ _ hq).get;have hvl:=hR.len;have hsz:∀ (i:Nat) (u:Value),(vs.take n)[i]?=some u→u.cells.size=z:=fun i u h=>by
  rw [List.getElem?_take] at h;split at h
  ·exact hR.sz i u h
  ·cases h
 have hrd:∀ (i:Nat) (x:D) (u:Value),(xs.take n)[i]?=some x→(vs.take n)[i]?=some u→Rd w S x u:=fun i x u h1 h2=>by
  rw [List.getElem?_take] at h1 h2;split at h1
  ·rename_i hlt;rw [if_pos hlt] at h2;exact hR.rd i x u h1 h2
  ·cases h1
 have hln:(xs.take n).length=n:=by simp;omega
 have hcl:=cellsOf_take hR.sz (k:=n) (by omega);rcases hv with ⟨h1,rfl,_,rfl⟩ | ⟨g,m,k,p,h1,h2,h3,h4,_,h6⟩
 ·refine ⟨⟨[],?_,by simp,by simp,by simp⟩,by rw [h1];rfl⟩;simpa [cellsOf] using World.ownsRow_nil w 0 e z
 ·rcases hR.blk with ⟨h7,_⟩ | ⟨g',cap,cur,h7,k2,k3,k4,k5,k6⟩
  ·rw [h1] at h7;cases h7
  ·rw [h1] at h7;simp only [Value.slice.injEq,Option.some.injEq,Addr.mk.injEq,and_true] at h7;obtain ⟨rfl,rfl,rfl⟩:=h7;have hkp:=h4 rfl;have hv:v=.slice (some ⟨g,0,none⟩) n k:=by
    rcases h6 with rfl | ⟨rfl,f,hf0,rfl⟩
    ·simp;omega
    ·have:f=0:=by simpa using hf0
     subst this;have:n=0:=by omega
     subst this;have:k=0:=by omega
     subst this;rfl
   subst hv;refine ⟨⟨vs.take n,?_,by simp [hvl],hrd,hsz⟩,by rw [h1];rfl⟩;rw [hln];refine ⟨hcl,.inr ⟨g,k,cur,rfl,Nat.zero_le _,k2,by omega,k4,k5,?_⟩⟩;have hsplit:cellsOf vs=cellsOf (vs.take n)++cellsOf (vs.drop n):=by rw [← cellsOf_append,List.take_append_drop]
   have:cur.toList.take (n * z)=(cur.toList.take (xs.length * z)).take (n * z):=by
    rw [List.take_take,Nat.min_eq_left (Nat.mul_le_mul_right z hn)]
   rw [this,k6,hsplit,← hcl];exact List.take_left
theorem w_append (hΘ:TabOk P Θ) (hf:Fr s a w S γ) {t u:TypeId} {x y:Operand} {r:SV×List (Nat×Option AO)×Nat} (ho:op.op=.call { callee:=.builtin .append,args:=#[x,y],argTypes:=#[t,u] }) (h:nW0 Θ (.call { callee:=.builtin .append,args:=#[x,y],argTypes:=#[t,u] }) (ev s.sl) s.o s.nk=some r) :
    Done w S γ s.o s.nk ((execOp a.eval op).run P w) r.1 (upds s.o r.2.1) r.2.2:=by
  have hx:=hf.ev x;have hy:=hf.ev y;have hlx:=hf.lt x;have hrun:(execOp a.eval op).run P w=((Builtin.append_ #[t,u] op.type #[a.eval x,a.eval y]).run P w).andThen fun v w'=>.ok (.value v) w':=by
    unfold execOp;simp only [ho,resolve,invoke,builtin,Sem.run_bind,Sem.run_pure,Result.andThen_ok,List.map_toArray,List.map_cons,List.map_nil]
  simp only [nW0] at h;split at h
  · rename_i i hi;split at h
    · rename_i e hk;split at h
      · rename_i j hj;split at h
        · rename_i zz ys hzz hys;split at hys
          · rename_i hut;subst hut;split at h
            · rename_i hsz;obtain ⟨hpos,hzl⟩:=hsz;obtain ⟨l,hz,hll⟩:=zLen_ok hzl;obtain ⟨ti,zv,hti,hzv,hlv⟩:=zero_lv hΘ (w:=w) (S:=S) hj hz;have hu:=(hΘ _ i hi).slice hk;obtain ⟨x',hx1,hx2,hx3⟩:=(hΘ e j hj).info;have hxx:x'=ti:=by rw [hx1] at hti;exact Option.some.inj hti
              subst hxx;have hzs:zv.cells.size=j.sz:=by rw [hlv.1];exact hll
              have hsrc:=srcN_ok hf.sto hy hys;generalize a.eval x=ux at hx hrun;generalize a.eval y=uy at hy hsrc hrun;split at h
              · rename_i z xs hxe;rw [hxe] at hx;split at h
                · rename_i hzj;subst hzj;cases hx with
                  | dx _ _ _ hr hcx=>
                    obtain ⟨A,n,c,rfl,rfl,hlc,_⟩:=rd_cut hr (m:=0) (h:=0) (l:=0);have hcn:=hcx _ _ _ rfl;split at h
                    · simp only [Option.some.injEq] at h;subst h;obtain ⟨B,d,rfl⟩:=hsrc.len;exact Done.now hf.sto (u:=.slice A xs.length c) (by rw [hrun];have:=ap_zero (P:=P) (w:=w) (ty:=op.type) (A:=A) (B:=B) (d:=d) hu hx1 hlc;rw [show ([]:List D).length=0 from rfl,this];rfl) (.dx _ _ _ hr hcx) trivial
                    · rename_i y0 yr;split at h
                      · rename_i hb;simp only [Option.some.injEq] at h;subst h;cases A with
                        | none=>
                          have hxs:xs=[]:=by
                            cases hr with
                            | emp=>rfl
                          subst hxs;have hc0:c=0:=by simpa using hcn
                          subst hc0;obtain ⟨v',w',γ',k1,k2,k3,k4⟩:=append_own (ty:=op.type) (q:=none) hΘ hf.sto (ux:=.slice none 0 0) (xs:=[]) (uy:=uy) hi hk hj hz hll hpos ⟨[],World.ownsRow_nil w 0 e j.sz,rfl,by simp,by simp⟩ (by simp) (fun _=>rfl) hsrc hb.1 hb.2;refine ⟨v',w',S,γ',.inl ?_,k2,k3,.row _ _ fun _ _ _ _=>k4.symm,Nat.lt_succ_self _⟩;rw [hrun];have:(Value.slice none ([]:List D).length 0)=.slice none 0 0:=rfl;rw [this,k1];rfl
                        | some A=>
                          obtain ⟨vs2,B,d,rfl,q1,q2,q3,q4,_⟩:=hsrc.at (by simp);obtain ⟨vsx,p1,p2,p3,p4⟩:∃ vs:List Value,vs.length=xs.length∧(∀ (i:Nat) (x:D) (u:Value),xs[i]?=some x→vs[i]?=some u→Rd w S x u)∧(∀ (i:Nat) (u:Value),vs[i]?=some u→u.cells.size=j.sz)∧∀ (p:Nat) (u:Value),(cellsOf vs)[p]?=some u→w.cell? (A.add p)=some u:=by
                            have hsx:Src w S (.slice (some A) xs.length c) j.sz xs:=src_of (γ:=γ) (o:=s.o) hf.sto (SR.d _ _ hr) (by simp [srcOf]);by_cases hx0:0 < xs.length
                            · obtain ⟨vs,A',c',e1,e2,e3,e4,e5,_⟩:=hsx.at hx0;simp only [Value.slice.injEq,Option.some.injEq] at e1;obtain ⟨rfl,_,_⟩:=e1;exact ⟨vs,e2,e3,e4,e5⟩
                            · have:xs=[]:=List.eq_nil_of_length_eq_zero (by omega);subst this;exact ⟨[],rfl,by simp,by simp,by simp [cellsOf]⟩
                          obtain ⟨v',w',g1,g2,g3⟩:=run_append_arg_grows (P:=P) w u op.type e x' zv j.sz j.bys hu hx1 hzv hx2 hx3 hzs hpos A xs.length c (cellsOf vsx) (by rw [cellsOf_length p3,p1]) p4 B vs2.length d (cellsOf vs2) (cellsOf_length q3) q4
                            (by rw [q1];simp only [List.length_cons];omega) (by rw [q1];simp only [maxLen];exact hb.1) (by rw [q1];exact hb.2)
                          have hSk:∀ k,S k→w'.heap[k]?=w.heap[k]?:=fun k hS=>g3.block k (hf.sto.s_lt k hS) (by simp);have hblk:blk v'=v'.ownBlock:=by
                            rcases g2.2 with ⟨k1,_⟩ | ⟨g,cap,cur,k1,_⟩ <;> rw [k1] <;> rfl
                          obtain ⟨m1,m2⟩:=hf.sto.put_row (w':=w') none (v:=v') (e:=e) (z:=j.sz) (xs:=xs++y0 :: yr) none (by simp) (fun _=>rfl) g3.os g3.tape g3.output g3.size (fun k hk _=>g3.block k hk (by simp))
                            ⟨vsx++vs2,by
                              rw [cellsOf_append,List.length_append,← q1];refine ⟨g2.1,?_⟩;rcases g2.2 with k | ⟨g,cap,cur,k1,_,k2⟩
                              · exact .inl k
                              · exact .inr ⟨g,cap,cur,k1,Nat.zero_le _,k2⟩,by simp [p1,q1],fun i x u h1 h2=>by
                              by_cases hlt:i < xs.length
                              · rw [List.getElem?_append_left hlt] at h1;rw [List.getElem?_append_left (by omega)] at h2;exact (p2 i x u h1 h2).mono (fun _ h=>h) hSk
                              · rw [List.getElem?_append_right (by omega)] at h1;rw [List.getElem?_append_right (by omega),p1] at h2;exact (q2 _ x u h1 h2).mono (fun _ h=>h) hSk,fun i u h2=>by
                              by_cases hlt:i < vsx.length
                              · rw [List.getElem?_append_left hlt] at h2;exact p3 i u h2
                              · rw [List.getElem?_append_right (by omega)] at h2;exact q3 _ u h2⟩ (fun g hg'=>by
                              rcases g2.2 with ⟨k1,_⟩ | ⟨g0,cap,cur,k1,kb,k2⟩
                              · rw [k1] at hg';simp [blk] at hg'
                              · rw [k1] at hg';simp [blk] at hg';subst hg';exact ⟨(Array.getElem?_eq_some_iff.1 k2.1).1,.inl kb⟩)
                          refine ⟨v',w',S,_,.inl ?_,m1,m2,.row _ _ fun _ _ _ _=>(upd_same _ _ _).symm,Nat.lt_succ_self _⟩;rw [hrun,g1];rfl
                      · cases h
                · cases h
              · rename_i q l0 n c hxe;rw [hxe] at hx hlx;split at h
                · rename_i e' z' xs vv hq hvo;obtain ⟨q',l',n',c',xs'⟩:=vv;obtain ⟨e2,hq2,hvw,hle⟩:=viewOf_ok hf.sto hx hvo;have hvv:q'=q∧l'=l0∧n'=n∧c'=c∧xs'=xs∧z'=j.sz:=by
                    simp only [viewOf,hq] at hvo;split at hvo
                    · rename_i hz0;simp only [Option.some.injEq,Prod.mk.injEq] at hvo;exact ⟨hvo.1.symm,hvo.2.1.symm,hvo.2.2.1.symm,hvo.2.2.2.1.symm,hvo.2.2.2.2.symm,hz0.1⟩
                    · cases hvo
                  obtain ⟨rfl,rfl,rfl,rfl,rfl,rfl⟩:=hvv;rw [hq] at hq2;simp only [Option.some.injEq,AO.row.injEq,true_and,and_true] at hq2;subst hq2;split at h
                  · simp only [Option.some.injEq] at h;subst h;obtain ⟨B,d,rfl⟩:=hsrc.len;obtain ⟨A,k,rfl,hnk⟩:∃ A k,ux=.slice A n' k∧n'≤k:=by
                      rcases hvw with ⟨_,rfl,_,rfl⟩ | ⟨g,m,k,p,_,h2,_,_,_,rfl | ⟨h5,f,_,rfl⟩⟩
                      · exact ⟨_,_,rfl,Nat.le_refl _⟩
                      · exact ⟨_,_,rfl,h2⟩
                      · have:n'=0:=by omega
                        subst this;exact ⟨_,_,rfl,Nat.le_refl _⟩
                    exact Done.now hf.sto (by have:=ap_zero (P:=P) (w:=w) (ty:=op.type) (A:=A) (B:=B) (d:=d) hu hx1 hnk;rw [hrun,show ([]:List D).length=0 from rfl,this];rfl) hx hlx
                  · rename_i y0 yr;split at h
                    · rename_i hc;obtain ⟨rfl,rfl,hlen⟩:=hc;simp only [Option.some.injEq] at h;subst h;obtain ⟨vs2,B,d,rfl,q1,q2,q3,q4,q5⟩:=hsrc.at (by simp);obtain ⟨vs,hR⟩:=(hf.sto.row _ _ _ _ hq).get;rcases hvw with ⟨h0,_⟩ | ⟨g,m,k,p,h1,h2,h3,h4,_,h6⟩
                      · rcases hR.blk with ⟨_,h7⟩ | ⟨g',cap,cur,h7,_⟩
                        · subst h7;simp at hlen
                        · rw [h0] at h7;cases h7
                      · rcases hR.blk with ⟨h7,_⟩ | ⟨g',cap,cur,h7,k2,k3,k4,k5,k6⟩
                        · rw [h1] at h7;cases h7
                        · have hγ:=h7;rw [h1] at h7;simp only [Value.slice.injEq,Option.some.injEq,Addr.mk.injEq,and_true] at h7;obtain ⟨rfl,rfl,rfl⟩:=h7;have hkp:=h4 rfl;have hux:ux=.slice (some ⟨g,l' * j.sz,none⟩) n' p:=by
                            rcases h6 with h | ⟨h,_⟩
                            · exact h
                            · simp only [List.length_cons] at hlen;omega
                          subst hux;have hmul:∀ m,m≤k→m * j.sz≤k * j.sz:=fun m hm=>Nat.mul_le_mul_right _ hm;have hml:=hmul (l' + n' + (y0 :: yr).length) (by omega);have e1:(l' + n' + (y0 :: yr).length) * j.sz=l' * j.sz+n' * j.sz+(y0 :: yr).length * j.sz:=by rw [Nat.add_mul,Nat.add_mul]
                          have hcl:(cellsOf vs2).length=(y0 :: yr).length * j.sz:=by rw [cellsOf_length q3,q1]
                          have hap:=run_append_room_cells (P:=P) w u op.type _ x' hu hx1 g (l' * j.sz) n' p B vs2.length d (cellsOf vs2) (by rw [hx2];exact cellsOf_length q3) q4 q5 (by rw [q1];omega)
                            (fun jj hj=>by
                              rw [hx2,cell_at k2,Array.getElem?_eq_getElem (show l' * j.sz+n' * j.sz+jj < cur.size by omega)];rfl)
                            (fun jj hj=>by simp [World.frozen?,k2])
                          have hvl:=hR.len;obtain ⟨_,m2,m3⟩:=hR.write (P:=P) hf.sto hq hγ (a:=l' + n') (f:=0) (us:=vs2) (ys:=y0 :: yr) (vals:=cellsOf vs2) (by rw [q1];exact hlen) q1 q2 q3 (by
                            have hB:(cellsOf ((vs.drop (l' + n')).take vs2.length)).length=vs2.length * j.sz:=by
                              rw [cellsOf_length (z:=j.sz) (fun i u hu=>by
                                rw [List.getElem?_take] at hu;split at hu
                                · rw [List.getElem?_drop] at hu;exact hR.sz _ u hu
                                · cases hu)]
                              congr 1;simp;omega
                            rw [List.take_zero,List.nil_append,List.drop_eq_nil_of_le (by rw [hB,cellsOf_length q3];omega),List.append_nil]) (by rw [cellsOf_length q3];omega) q5
                          rw [Nat.add_zero] at m2 m3;have e2:l' * j.sz+n' * x'.size=(l' + n') * j.sz:=by rw [hx2,Nat.add_mul]
                          rw [e2] at hap;refine ⟨_,_,S,γ,.inl (by rw [hrun,hap];rfl),m2,m3,.view _ _ _ _ _ fun e3 z3 xs3 hx3=>?_,hlx⟩;have hx3:upd s.o q' _ q'=some (AO.row e3 z3 xs3):=hx3;rw [upd_same] at hx3;simp only [Option.some.injEq,AO.row.injEq] at hx3;obtain ⟨rfl,rfl,_⟩:=hx3;exact .inr ⟨g,_,k,p,h1,by omega,h3,h4,fun h=>(by cases h),.inl (by rw [q1])⟩
                    · split at h
                      · rename_i hc;obtain ⟨rfl,rfl,rfl,hb1,hb2⟩:=hc;simp only [Option.some.injEq] at h;subst h;obtain ⟨v1,v2⟩:=view_row hf.sto hq hvw (by omega);have hln:(xs'.take n').length=n':=by simp;omega
                        obtain ⟨v',w',γ',k1,k2,k3,k4⟩:=append_own (ty:=op.type) (q:=some q') hΘ hf.sto (ux:=ux) (uy:=uy) hi hk hj hz hll hpos v1 (fun t ht=>by
                          simp only [Option.some.injEq] at ht;subst ht;exact ⟨_,hq,v2⟩) (by simp) hsrc (by rw [hln];exact hb1) (by rw [hln];exact hb2)
                        exact ⟨v',w',S,γ',.inl (by rw [hrun,k1];rfl),k2,k3,.row _ _ fun _ _ _ _=>k4.symm,Nat.lt_succ_self _⟩
                      · cases h
                · cases h
              · split at h
                · rename_i q xs hd;split at h
                  · rename_i hb;simp only [Option.some.injEq] at h;subst h;obtain ⟨hR,hq1,hq2⟩:=dst_of hf.sto hx hd;obtain ⟨v',w',γ',k1,k2,k3,k4⟩:=append_own (ty:=op.type) (q:=q) hΘ hf.sto (ux:=ux) (uy:=uy) hi hk hj hz hll hpos hR hq1 hq2 hsrc hb.1 hb.2;refine ⟨v',w',S,γ',.inl (by rw [hrun,k1];rfl),?_,?_,.row _ _ fun _ _ _ _=>k4.symm,Nat.lt_succ_self _⟩
                    · simp only [killL_upds];exact k2
                    · simp only [killL_upds];exact k3
                  · cases h
                · cases h
            · cases h
          · cases hys
        · cases h
      · cases h
    · cases h
  · cases h
theorem view_write (hs:Sto w S γ s.o s.nk) {q l n e z:Nat} {c:VC} {xs ys:List D} {v:Value} {vs2:List Value} (hq:s.o q=some (.row e z xs)) (hvw:VW z l n c (γ q) v) (hle:l+n≤xs.length) (hm:vs2.length≤n) (h0:0 < vs2.length) (q1:vs2.length=ys.length)
    (q2:∀ (i:Nat) (x:D) (u:Value),ys[i]?=some x→vs2[i]?=some u→Rd w S x u) (q3:∀ (i:Nat) (u:Value),vs2[i]?=some u→u.cells.size=z) (q5:∀ u∈cellsOf vs2,u.oneCell'=true) :
    ∃ g p,v=.slice (some ⟨g,l * z,none⟩) n p∧(storeCells ⟨g,l * z,none⟩ (cellsOf vs2)).run P w=.ok () (w.setCells g (l * z) (cellsOf vs2))∧
      Sto (w.setCells g (l * z) (cellsOf vs2)) S γ (upd s.o q (some (.row e z (xs.take l++ys++xs.drop (l+ys.length))))) s.nk∧Tr w S γ s.o s.nk (w.setCells g (l * z) (cellsOf vs2)) S γ (upd s.o q (some (.row e z (xs.take l++ys++xs.drop (l+ys.length))))) s.nk:=by
  obtain ⟨vs,hR⟩:=(hs.row _ _ _ _ hq).get;have hvl:=hR.len;obtain ⟨g,m0,k0,p,hu,rfl⟩:=vw_blk hvw (by omega);have hγ:γ q=.slice (some ⟨g,0,none⟩) xs.length k0:=by
    rcases hR.blk with ⟨h2,_⟩ | ⟨g',cap,cur,h2,_⟩
    · rw [hu] at h2;cases h2
    · rw [hu] at h2;simp only [Value.slice.injEq] at h2;rw [hu,h2.2.1]
  obtain ⟨m1,m2,m3⟩:=hR.write (P:=P) hs hq hγ (a:=l) (f:=0) (us:=vs2) (ys:=ys) (vals:=cellsOf vs2) (by omega) q1 q2 q3 (by
    have hB:(cellsOf ((vs.drop l).take vs2.length)).length=vs2.length * z:=by
      rw [cellsOf_length (z:=z) (fun i u hu=>by
        rw [List.getElem?_take] at hu;split at hu
        · rw [List.getElem?_drop] at hu;exact hR.sz _ u hu
        · cases hu)]
      congr 1;simp;omega
    rw [List.take_zero,List.nil_append,List.drop_eq_nil_of_le (by rw [hB,cellsOf_length q3];omega),List.append_nil]) (by rw [cellsOf_length q3];omega) q5
  exact ⟨g,p,rfl,m1,m2,m3⟩
theorem upd_same_row {o:Nat→Option AO} {q:Nat} {x:AO} (h:o q=some x):upd o q (some x)=o:=by
 funext u;unfold upd;split
 ·rename_i hu;rw [hu,h]
 ·rfl
theorem view_o {o:Nat→Option AO} {z q l n:Nat} {c:VC} {xs:List D} {x:SV} {e z':Nat} {xs':List D} (hv:viewOf o z x=some (q,l,n,c,xs)) (ho:o q=some (.row e z' xs')):z'=z∧xs'=xs∧l+n≤xs.length:=by
 unfold viewOf at hv;split at hv
 ·split at hv
  ·rename_i h;split at hv
   ·simp only [Option.some.injEq,Prod.mk.injEq] at hv;obtain ⟨rfl,rfl,rfl,_,rfl⟩:=hv;rw [ho] at h;simp only [Option.some.injEq,AO.row.injEq] at h;obtain ⟨rfl,rfl,rfl⟩:=h;exact ⟨by assumption,rfl,by omega⟩
   ·cases hv
  ·cases hv
 ·split at hv
  ·rename_i h;split at hv
   ·rename_i hc;simp only [Option.some.injEq,Prod.mk.injEq] at hv;obtain ⟨rfl,rfl,rfl,_,rfl⟩:=hv;rw [ho] at h;simp only [Option.some.injEq,AO.row.injEq] at h;obtain ⟨rfl,rfl,rfl⟩:=h;exact ⟨hc.1,rfl,hc.2⟩
   ·cases hv
  ·cases hv
 ·cases hv
theorem w_clear (hΘ:TabOk P Θ) (hf:Fr s a w S γ) {t:TypeId} {x:Operand} {r:SV×List (Nat×Option AO)×Nat} (ho:op.op=.call { callee:=.builtin .clear,args:=#[x],argTypes:=#[t] }) (h:nW0 Θ (.call { callee:=.builtin .clear,args:=#[x],argTypes:=#[t] }) (ev s.sl) s.o s.nk=some r) :
    Done w S γ s.o s.nk ((execOp a.eval op).run P w) r.1 (upds s.o r.2.1) r.2.2:=by
  have hx:=hf.ev x;have hrun:(execOp a.eval op).run P w=((Builtin.clear_ #[t] op.type #[a.eval x]).run P w).andThen fun v w'=>.ok (.value v) w':=by
    unfold execOp;simp only [ho,resolve,invoke,builtin,Sem.run_bind,Sem.run_pure,Result.andThen_ok,List.map_toArray,List.map_cons,List.map_nil]
  simp only [nW0] at h;split at h
  · rename_i i hi;split at h
    · rename_i e hk;split at h
      · rename_i j hj;split at h
        · rename_i zz q l n c xs hzz hvo;split at h
          · rename_i hzw;split at h
            · rename_i e' z' xs' hq;simp only [Option.some.injEq] at h;subst h;obtain ⟨rfl,rfl,hle⟩:=view_o hvo hq;obtain ⟨e2,hq2,hvw,_⟩:=viewOf_ok hf.sto hx hvo;have hu:=(hΘ t i hi).slice hk;obtain ⟨ti,zv,hti,hzv,hzr⟩:=zero_rd (w:=w) (S:=S) hΘ hj hzz;generalize a.eval x=ux at hx hrun hvw;have tup0:∀ {w':World} {γ':Nat→Value} {o':Nat→Option AO},SR w' S γ' o' (.tup []) (.tuple #[]):=.tup [] [] rfl (by simp);by_cases hn:n=0
              · subst hn;obtain ⟨A,k,rfl⟩:=vw_len hvw;have hrow:upds s.o [(q,some (AO.row e' j.sz (xs'.take l++List.replicate 0 zz++xs'.drop (l+0))))]=s.o:=by
                  simp only [upds,List.replicate_zero,List.append_nil,Nat.add_zero,List.take_append_drop];exact upd_same_row hq
                show Done w S γ s.o s.nk _ (.tup []) (upds s.o _) s.nk;rw [hrow];refine Done.now hf.sto (u:=.tuple #[]) ?_ tup0 trivial;rw [hrun];cases A <;> simp [Builtin.clear_,run_underlying hu]
              · obtain ⟨g,p,rfl,m1,m2,m3⟩:=view_write (P:=P) (vs2:=List.replicate n zv) (ys:=List.replicate n zz) hf.sto hq hvw hle (by simp) (by simp;omega) (by simp) (fun i x u h1 h2=>by
                    have e1:=List.eq_of_mem_replicate (List.mem_of_getElem? h1);have e2:=List.eq_of_mem_replicate (List.mem_of_getElem? h2);rw [e1,e2];exact hzr) (fun i u h2=>by rw [List.eq_of_mem_replicate (List.mem_of_getElem? h2),hzr.width];exact hzw) (fun u hu'=>by
                    obtain ⟨p,hp⟩:=List.getElem?_of_mem hu';obtain ⟨i,jj,q',k1,k2,_⟩:=cellsOf_get (z:=j.sz) (fun i u h2=>by rw [List.eq_of_mem_replicate (List.mem_of_getElem? h2),hzr.width];exact hzw) p u hp;rw [List.eq_of_mem_replicate (List.mem_of_getElem? k1)] at k2;exact hzr.cells_one jj u k2)
                refine ⟨.tuple #[],_,S,γ,.inl ?_,by simpa [upds] using m2,by simpa [upds] using m3,tup0,trivial⟩;rw [hrun];have hz0:(Builtin.zeroCells zv.cells n).toList=cellsOf (List.replicate n zv):=zeros_list zv n
                match n,hn with
                | n+1,_=>simp [Builtin.clear_,run_underlying hu,zeroValue,typeInfo,hti,hzv,hz0,m1]
            · cases h
          · cases h
        · cases h
      · cases h
    · cases h
  · cases h
theorem w_copy (hΘ:TabOk P Θ) (hf:Fr s a w S γ) {t:TypeId} {ts:Array TypeId} {x y:Operand} {tr:List TypeId} {r:SV×List (Nat×Option AO)×Nat} (hts:ts.toList=t :: tr) (ho:op.op=.call { callee:=.builtin .copy,args:=#[x,y],argTypes:=ts }) (h:nW0 Θ (.call { callee:=.builtin .copy,args:=#[x,y],argTypes:=ts }) (ev s.sl) s.o s.nk=some r) :
    Done w S γ s.o s.nk ((execOp a.eval op).run P w) r.1 (upds s.o r.2.1) r.2.2:=by
  have hx:=hf.ev x;have hy:=hf.ev y;have ht0:ts[0]?=some t:=by rw [← Array.getElem?_toList,hts];rfl
  have hrun:(execOp a.eval op).run P w=((Builtin.copy_ ts op.type #[a.eval x,a.eval y]).run P w).andThen fun v w'=>.ok (.value v) w':=by
    unfold execOp;simp only [ho,resolve,invoke,builtin,Sem.run_bind,Sem.run_pure,Result.andThen_ok,List.map_toArray,List.map_cons,List.map_nil]
  simp only [nW0,hts] at h;split at h
  · rename_i i hi;split at h
    · rename_i e hk;split at h
      · rename_i j hj;split at h
        · rename_i q l n c xs ys hvo hys;split at h
          · rename_i e' z' xs' hq;simp only [Option.some.injEq] at h;subst h;obtain ⟨rfl,rfl,hle⟩:=view_o hvo hq;obtain ⟨e2,hq2,hvw,_⟩:=viewOf_ok hf.sto hx hvo;have hsrc:=srcN_ok hf.sto hy hys;have hu:=(hΘ t i hi).slice hk;generalize a.eval x=ux at hx hrun hvw;generalize a.eval y=uy at hy hrun hsrc;by_cases hn:(ys.take n).length=0
            · have hnil:ys.take n=[]:=List.eq_nil_of_length_eq_zero hn;have hrow:upds s.o [(q,some (AO.row e' j.sz (xs'.take l++ys.take n++xs'.drop (l+(ys.take n).length))))]=s.o:=by
                rw [hnil];simp only [upds,List.append_nil,List.length_nil,Nat.add_zero,List.take_append_drop];exact upd_same_row hq
              show Done w S γ s.o s.nk _ (.d (.int .i64 ((ys.take n).length:Nat))) (upds s.o _) s.nk;rw [hrow,hn];obtain ⟨A,k,rfl⟩:=vw_len hvw;obtain ⟨B,d,rfl⟩:=hsrc.len;refine Done.now hf.sto (u:=.int .i64 0) ?_ (.d _ _ (.int _ _)) trivial;rw [hrun];have hmin:Nat.min ys.length n=0:=by
                have:min n ys.length=0:=by simpa using hn
                show min ys.length n=0;omega
              have hfc:(Builtin.firstCells j.sz 0 (.slice B ys.length d)).run P w=.ok #[] w:=by
                cases B with
                | none=>simp [Builtin.firstCells]
                | some b=>exact run_firstCells_some (P:=P) w j.sz 0 b _ d [] (by simp) (by simp)
              cases A <;> simp [Builtin.copy_,ht0,run_underlying hu,Builtin.lenOf,(hΘ e j hj).run_size,hmin,hfc,storeCells,goInt]
            · obtain ⟨vs2,B,d,rfl,q1,q2,q3,q4,q5⟩:=hsrc.at (by rcases Nat.eq_zero_or_pos ys.length with h | h;(· exact absurd (by simp [h]) hn);exact h);have hsub:∀ (i:Nat) (u:Value),(vs2.take n)[i]?=some u→vs2[i]?=some u:=fun i u h=>by
                rw [List.getElem?_take] at h;split at h
                · exact h
                · cases h
              have hsuby:∀ (i:Nat) (u:D),(ys.take n)[i]?=some u→ys[i]?=some u:=fun i u h=>by
                rw [List.getElem?_take] at h;split at h
                · exact h
                · cases h
              have hsplit:cellsOf vs2=cellsOf (vs2.take n)++cellsOf (vs2.drop n):=by rw [← cellsOf_append,List.take_append_drop]
              have hln:(vs2.take n).length=(ys.take n).length:=by simp [q1]
              have q3':∀ (i:Nat) (u:Value),(vs2.take n)[i]?=some u→u.cells.size=j.sz:=fun i u h=>q3 i u (hsub i u h);obtain ⟨g,p,rfl,m1,m2,m3⟩:=view_write (P:=P) (vs2:=vs2.take n) (ys:=ys.take n) hf.sto hq hvw hle (by simp;omega) (by rw [hln];omega) hln (fun i x u h1 h2=>q2 i x u (hsuby i x h1) (hsub i u h2)) q3' (fun u hu'=>q5 u (by rw [hsplit];simp [hu']));refine ⟨.int .i64 (ys.take n).length,_,S,γ,.inl ?_,by simpa [upds] using m2,by simpa [upds] using m3,.d _ _ (.int _ _),trivial⟩;rw [hrun];have hmin:Nat.min vs2.length n=(vs2.take n).length:=by
                show min vs2.length n=_;simp [Nat.min_comm]
              have hfc:(Builtin.firstCells j.sz (vs2.take n).length (.slice (some B) vs2.length d)).run P w=.ok (cellsOf (vs2.take n)).toArray w:=
                run_firstCells_some (P:=P) w j.sz _ B _ d (cellsOf (vs2.take n)) (cellsOf_length q3') (fun jj u hj=>q4 jj u (by
                  rw [hsplit,List.getElem?_append_left (List.getElem?_eq_some_iff.1 hj).1];exact hj))
              have e0:(vs2.take n).length=min n ys.length:=by simp [q1]
              rw [e0] at hfc;simp [Builtin.copy_,ht0,run_underlying hu,Builtin.lenOf,(hΘ e j hj).run_size,hmin,hfc,m1,goInt,e0]
          · cases h
        · cases h
      · cases h
    · cases h
  · cases h
theorem w_delete (hΘ:TabOk P Θ) (hf:Fr s a w S γ) {t:TypeId} {ts:Array TypeId} {m x:Operand} {tr:List TypeId} {r:SV×List (Nat×Option AO)×Nat} (hts:ts.toList=t :: tr) (ho:op.op=.call { callee:=.builtin .delete,args:=#[m,x],argTypes:=ts }) (h:nW0 Θ (.call { callee:=.builtin .delete,args:=#[m,x],argTypes:=ts }) (ev s.sl) s.o s.nk=some r) :
    Done w S γ s.o s.nk ((execOp a.eval op).run P w) r.1 (upds s.o r.2.1) r.2.2:=by
  have hm:=hf.ev m;have hx:=hf.ev x;have ht0:ts[0]?=some t:=by rw [← Array.getElem?_toList,hts];rfl
  have hrun:(execOp a.eval op).run P w=((Builtin.delete_ ts op.type #[a.eval m,a.eval x]).run P w).andThen fun v w'=>.ok (.value v) w':=by
    unfold execOp;simp only [ho,resolve,invoke,builtin,Sem.run_bind,Sem.run_pure,Result.andThen_ok,List.map_toArray,List.map_cons,List.map_nil]
  have tup0:∀ {w':World} {γ':Nat→Value} {o':Nat→Option AO},SR w' S γ' o' (.tup []) (.tuple #[]):=.tup [] [] rfl (by simp);simp only [nW0,hts] at h;split at h
  · rename_i i hi;split at h
    · rename_i kt e hk;split at h
      · rename_i j q k hj hme hxe;rw [hme] at hm;rw [hxe] at hx;split at h
        · rename_i kvs hq;split at h
          · rename_i hok;generalize a.eval m=um at hm hrun;generalize a.eval x=ux at hx hrun;obtain ⟨g,es,clk,rfl,hg,hw,hmr⟩:=map_at hf.sto hq hm;cases hx with
            | d _ _ hxr=>
              obtain ⟨k1,k2⟩:=find_k (P:=P) (hΘ kt j hj) hok hxr hmr;have hgo:(getObj g).run P w=.ok (.map es clk) w:=by simp [getObj,Sem.run,hw]
              split at h
              · rename_i i0 d0 hfd;simp only [Option.some.injEq] at h;subst h;rw [hfd] at k2;obtain ⟨e0,e1,_,e2,e3⟩:=k2;have hnew:MapRd w S (kvs.eraseIdx i0) (es.eraseIdxIfInBounds i0).toList clk:=by
                  have hl:(es.eraseIdxIfInBounds i0).toList=es.toList.eraseIdx i0:=by simp
                  rw [hl];refine ⟨by simp [List.length_eraseIdx,hmr.len],fun p kv e h1 h2=>?_,fun e he=>hmr.born e (List.mem_of_mem_eraseIdx he),hmr.apart.sublist (List.eraseIdx_sublist _ _)⟩;rw [List.getElem?_eraseIdx] at h1 h2;split at h1
                  · rename_i hp;rw [if_pos hp] at h2;exact hmr.rd _ _ _ h1 h2
                  · rename_i hp;rw [if_neg hp] at h2;exact hmr.rd _ _ _ h1 h2
                obtain ⟨m1,m2,m3⟩:=map_set (P:=P) hf.sto hq hg hw hnew;refine ⟨.tuple #[],_,S,γ,.inl ?_,m2,m3,tup0,trivial⟩;rw [hrun];unfold Builtin.delete_;simp [ht0,run_underlying ((hΘ t i hi).map hk),hgo,k1,e3,m1]
              · rename_i hfd;simp only [Option.some.injEq] at h;subst h;rw [hfd] at k2;obtain ⟨m1,m2,m3⟩:=map_set (P:=P) hf.sto hq hg hw hmr;have e0:upd s.o q (some (.raw (.map kvs)))=s.o:=upd_same_row hq;rw [e0] at m2 m3;refine ⟨.tuple #[],_,S,γ,.inl ?_,m2,m3,tup0,trivial⟩;rw [hrun];unfold Builtin.delete_;simp [ht0,run_underlying ((hΘ t i hi).map hk),hgo,k1,k2,m1]
          · cases h
        · cases h
      · cases h
    · cases h
  · cases h
theorem natV_ok {c:SV} {v:Value} {n:Nat} (h:SR w S γ s.o c v) (hn:natV c=some n):∃ k,v=.int k (n:Int)∧n≤9223372036854775807:=by
 unfold natV at hn;split at hn
 ·split at hn
  ·rename_i k m hc;simp only [Option.some.injEq] at hn;subst hn;cases h with
   | d _ _ hr=>cases hr with
    | int=>exact ⟨k,by rw [Int.toNat_of_nonneg hc.1],by omega⟩
  ·cases hn
 ·cases hn
theorem w_makeSlice (hΘ:TabOk P Θ) (hf:Fr s a w S γ) {t:TypeId} {x y:Operand} {r:SV×List (Nat×Option AO)×Nat} (ho:op.op=.makeSlice t x y) (h:nW0 Θ (.makeSlice t x y) (ev s.sl) s.o s.nk=some r) :
    Done w S γ s.o s.nk ((execOp a.eval op).run P w) r.1 (upds s.o r.2.1) r.2.2:=by
  have hx:=hf.ev x;have hy:=hf.ev y;have hrun:(execOp a.eval op).run P w=((Instr.makeSlice t (a.eval x) (a.eval y)).run P w).andThen fun u w'=>.ok (.value u) w':=by simp [execOp,ho]
  simp only [nW0] at h;split at h
  · rename_i i hi;split at h
    · rename_i e hk;split at h
      · rename_i j hj;split at h
        · rename_i zz l c hzz hxl hyc;split at h
          · rename_i hc;obtain ⟨hlc,hcells,hbytes,hpos,hzw⟩:=hc;simp only [Option.some.injEq] at h;subst h;obtain ⟨ti,zv,hti,hzv,hzr⟩:=zero_rd (w:=w) (S:=S) hΘ hj hzz;obtain ⟨x',hx1,hx2,hx3⟩:=(hΘ e j hj).info;have hxx:x'=ti:=by rw [hx1] at hti;exact Option.some.inj hti
            subst hxx;obtain ⟨k1,e1,b1⟩:=natV_ok hx hxl;obtain ⟨k2,e2,b2⟩:=natV_ok hy hyc;rw [e1,e2] at hrun;have hb48:(x'.bytes:Int) * (c:Int)≤281474976710656:=by
              have h:((j.bys * c:Nat):Int)≤281474976710656:=by omega
              rw [hx3];rwa [Int.natCast_mul] at h
            have hr:=run_makeSlice (P:=P) w t e x' zv ((hΘ t i hi).slice hk) hx1 hzv k1 k2 l c (by omega) (by omega) (by rw [hx2];simpa using hcells) hb48 (by omega);simp only [Int.toNat_natCast] at hr;have hzs:zv.cells.size=j.sz:=by rw [hzr.width];exact hzw
            have hmade:(madeCells zv.cells (c * x'.size)).toList=cellsOf (List.replicate c zv):=by rw [hx2,← hzs];exact made_list zv c
            have hrep:∀ (m i:Nat) (u:Value),(List.replicate m zv)[i]?=some u→u.cells.size=j.sz:=fun m i u h=>by rw [List.eq_of_mem_replicate (List.mem_of_getElem? h)];exact hzs
            have hln:∀ m,(cellsOf (List.replicate m zv)).length=m * j.sz:=fun m=>by rw [cellsOf_length (hrep m)];simp
            have hR:RowAt (w.alloc (.cells (madeCells zv.cells (c * x'.size)) e)) S (.slice (some ⟨w.heap.size,0,none⟩) l c) e j.sz (List.replicate l zz):=by
              refine ⟨List.replicate l zv,?_,by simp,fun i x u h1 h2=>?_,hrep l⟩
              · refine ⟨by rw [hln];simp,.inr ⟨w.heap.size,c,_,by simp,Nat.zero_le _,heap_alloc_new w _,by simpa using hlc,by simp only [maxLen];exact b2,?_,?_⟩⟩
                · have:(madeCells zv.cells (c * x'.size)).toList.length=c * j.sz:=by rw [hmade,hln]
                  simpa using this
                · rw [hmade,List.length_replicate];have:List.replicate c zv=List.replicate l zv++List.replicate (c - l) zv:=by rw [List.replicate_append_replicate];congr 1;omega
                  rw [this,cellsOf_append,← hln l];exact List.take_left
              · rw [List.eq_of_mem_replicate (List.mem_of_getElem? h1),List.eq_of_mem_replicate (List.mem_of_getElem? h2)];exact hzr.mono (fun _ h=>h) (fun k hk=>alloc_old w _ k (hf.sto.s_lt k hk))
            obtain ⟨m1,m2⟩:=hf.sto.put_row (w':=w.alloc (.cells (madeCells zv.cells (c * x'.size)) e)) none (v:=.slice (some ⟨w.heap.size,0,none⟩) l c) (e:=e) (z:=j.sz) (xs:=List.replicate l zz) none (by simp) (fun _=>rfl) rfl rfl rfl (by simp) (fun k hk _=>alloc_old w _ k hk) hR (fun g hg=>by
              simp [blk] at hg;subst hg;simp)
            refine ⟨_,_,S,_,.inl (by rw [hrun,hr];rfl),m1,m2,.row _ _ fun _ _ _ _=>(upd_same _ _ _).symm,Nat.lt_succ_self _⟩
          · cases h
        · cases h
      · cases h
    · cases h
  · cases h
theorem nW0_sound (hΘ:TabOk P Θ) (hf:Fr s a w S γ) {r:SV×List (Nat×Option AO)×Nat} (h:nW0 Θ op.op (ev s.sl) s.o s.nk=some r):Done w S γ s.o s.nk ((execOp a.eval op).run P w) r.1 (upds s.o r.2.1) r.2.2:=by
 generalize ho:op.op=o0 at h;cases o0 with
 | store t x y=>exact w_store2 hΘ hf ho h
 | makeMap t x=>exact w_makeMap hΘ hf ho h
 | mapUpdate t m x y=>exact w_mapUpdate hΘ hf ho h
 | makeSlice t x y=>exact w_makeSlice hΘ hf ho h
 | call c=>
  obtain ⟨callee,args,ts⟩:=c;have h':=h;simp only [nW0] at h;split at h
  ·rename_i x y t u ha ht;have e1:args=#[x,y]:=by apply Array.ext';simpa using ha
   have e2:ts=#[t,u]:=by apply Array.ext';simpa using ht
   subst e1;subst e2;exact w_append hΘ hf ho h'
  ·rename_i x t ha ht;have e1:args=#[x]:=by apply Array.ext';simpa using ha
   have e2:ts=#[t]:=by apply Array.ext';simpa using ht
   subst e1;subst e2;exact w_clear hΘ hf ho h'
  ·rename_i x y t tr ha ht;have e1:args=#[x,y]:=by apply Array.ext';simpa using ha
   subst e1;exact w_copy hΘ hf ht ho h'
  ·rename_i m x t tr ha ht;have e1:args=#[m,x]:=by apply Array.ext';simpa using ha
   subst e1;exact w_delete hΘ hf ht ho h'
  ·cases h
 | _=>simp [nW0] at h
def rowOf:SV→Option Nat
 | .row t=>some t
 | .view t _ _ _=>some t
 | _=>none
def nWF (Θ:Tab) (op:Op) (ev:Operand→SV) (o:Nat→Option AO) (nk:Nat):List Operand→Option (SV×List (Nat×Option AO)×Nat)
 | []=>none
 | x :: r=>match rowOf (ev x) with
  | some t=>match o t with
   | some (.row _ z xs)=>match nW0 Θ op (fun y=>(ev y).frz t (.sl z xs)) (upd o t none) nk with
    | some (v,l,nk')=>some (v,(t,none) :: l,nk')
    | none=>nWF Θ op ev o nk r
   | _=>nWF Θ op ev o nk r
  | none=>nWF Θ op ev o nk r
def nW (Θ:Tab) (op:Op) (ev:Operand→SV) (o:Nat→Option AO) (nk:Nat):Option (SV×List (Nat×Option AO)×Nat):=
 match nW0 Θ op ev o nk with
 | some r=>some r
 | none=>nWF Θ op ev o nk op.operands.toList
theorem nW_of0 {Θ:Tab} {op:Op} {ev:Operand→SV} {o:Nat→Option AO} {nk:Nat} {r:SV×List (Nat×Option AO)×Nat} (h:nW0 Θ op ev o nk=some r):nW Θ op ev o nk=some r:=by
 unfold nW;rw [h]
theorem nW_ofF {Θ:Tab} {op:Op} {ev:Operand→SV} {o:Nat→Option AO} {nk:Nat} {r:SV×List (Nat×Option AO)×Nat} (h0:nW0 Θ op ev o nk=none) (h:nWF Θ op ev o nk op.operands.toList=some r):nW Θ op ev o nk=some r:=by
 unfold nW;rw [h0];exact h
theorem nWF_congr {Θ:Tab} {op:Op} {ev ev':Operand→SV} {o:Nat→Option AO} {nk:Nat} (h:∀ x∈op.operands,ev x=ev' x):∀ l:List Operand,(∀ x∈l,x∈op.operands)→nWF Θ op ev o nk l=nWF Θ op ev' o nk l
 | [],_=>rfl
 | x :: l,hl=>by
  have ih:=nWF_congr (Θ:=Θ) (o:=o) (nk:=nk) h l fun y hy=>hl y (by simp [hy]);have hf:∀ (t:Nat) (d:D) (o1:Nat→Option AO),nW0 Θ op (fun y=>(ev y).frz t d) o1 nk=nW0 Θ op (fun y=>(ev' y).frz t d) o1 nk:=fun t d o1=>nW0_congr (Θ:=Θ) (op:=op) fun y hy=>by show (ev y).frz t d=(ev' y).frz t d;rw [h y hy]
  simp only [nWF];rw [h x (hl x (by simp)),ih];simp only [hf]
theorem nW_congr {Θ:Tab} {op:Op} {ev ev':Operand→SV} {o:Nat→Option AO} {nk:Nat} (h:∀ x∈op.operands,ev x=ev' x):nW Θ op ev o nk=nW Θ op ev' o nk:=by
 unfold nW;rw [nW0_congr h,nWF_congr h _ fun x hx=>by simpa using hx]
theorem cst_frz (v:Value) (t:Nat) (x:D):(cst v).frz t x=cst v:=by
 unfold cst;split <;> first | rfl | (split <;> rfl)
theorem ev_frz (sl:Nat→SV) (t:Nat) (x:D):ev (fun u=>(sl u).frz t x)=fun y=>(ev sl y).frz t x:=by
 funext y;cases y with
 | tmp u=>rfl
 | const v=>exact (cst_frz v t x).symm
 | func f=>rfl
 | global g=>rfl
theorem nWF_sound (hΘ:TabOk P Θ) (hf:Fr s a w S γ):∀ (l:List Operand) {r:SV×List (Nat×Option AO)×Nat},nWF Θ op.op (ev s.sl) s.o s.nk l=some r→Done w S γ s.o s.nk ((execOp a.eval op).run P w) r.1 (upds s.o r.2.1) r.2.2
 | [],r,h=>by simp [nWF] at h
 | x :: l,r,h=>by
  simp only [nWF] at h;split at h
  ·rename_i t hx;split at h
   ·rename_i e z xs ht;split at h
    ·rename_i v l' nk' hw;simp only [Option.some.injEq] at h;subst h;obtain ⟨k1,k2,k3⟩:=hf.sto.freeze ht;have hf1:Fr { sl:=fun u=>(s.sl u).frz t (.sl z xs),o:=upd s.o t none,nk:=s.nk } a w _ γ:=⟨k1,fun u=>(hf.sl u).frz hf.sto ht (hf.slt u),fun u=>SV.frz_lt (hf.slt u)⟩;rw [← ev_frz] at hw;obtain ⟨u,w',S',γ',g1,g2,g3,g4,g5⟩:=nW0_sound hΘ hf1 hw;exact ⟨u,w',S',γ',g1,g2,k2.trans g3,g4,g5⟩
    ·exact nWF_sound hΘ hf l h
   ·exact nWF_sound hΘ hf l h
  ·exact nWF_sound hΘ hf l h
theorem nW_sound (hΘ:TabOk P Θ) (hf:Fr s a w S γ) {r:SV×List (Nat×Option AO)×Nat} (h:nW Θ op.op (ev s.sl) s.o s.nk=some r):Done w S γ s.o s.nk ((execOp a.eval op).run P w) r.1 (upds s.o r.2.1) r.2.2:=by
 unfold nW at h;split at h
 ·rename_i r0 h0;simp only [Option.some.injEq] at h;subst h;exact nW0_sound hΘ hf h0
 ·exact nWF_sound hΘ hf _ h
end
def blOp (Θ:Tab) (s:St) (b:Builtin) (ts:Array TypeId) (args:List Operand) (K:SV→(Nat→Option AO)→Nat→Prop):Prop:=
 match b,args with
 | .len,[x]=>leOp Θ s.o ts (ev s.sl x) (fun v=>K v s.o s.nk)
 | .append,[x,y]=>apOp Θ s.o s.nk ts (ev s.sl x) (ev s.sl y) K
 | .max,[x,y]=>∃ r,mmD true (ev s.sl x) (ev s.sl y)=some r∧K (.d r) s.o s.nk
 | .min,[x,y]=>∃ r,mmD false (ev s.sl x) (ev s.sl y)=some r∧K (.d r) s.o s.nk
 | _,_=>False
def ncOp (o:Nat→Option AO) (c:SV):Prop:=
 match c with
 | .loc k _=>∃ cs,o k=some (.box cs)
 | .el _=>True
 | .clo _ _ _=>True
 | _=>False
def vOp0 (P:Program) (Θ:Tab) (op:Op) (s:St) (K:SV→(Nat→Option AO)→Nat→Prop):Prop:=
 match op with
 | .move x=>K (ev s.sl x) s.o s.nk
 | .assign x=>K (ev s.sl x) s.o s.nk
 | .pick c x y=>∃ b,ev s.sl c=.d (.bool b)∧K (if b=true then ev s.sl x else ev s.sl y) s.o s.nk
 | .alloc e=>∃ i l,Θ e=some i∧i.z=some l∧K (.loc s.nk 0) (upd s.o s.nk (some (.box (l.map .d)))) (s.nk+1)
 | .box e x=>∃ cs,(ev s.sl x).cells s.o=some cs∧K (.loc s.nk 0) (upd s.o s.nk (some (.box cs))) (s.nk+1)
 | .build t parts=>buOp Θ t (parts.toList.map fun p=>(p.1,ev s.sl p.2)) (fun v=>K v s.o s.nk)
 | .buildSlice t n parts=>bsOp Θ s.o s.nk t n (parts.toList.map fun p=>(p.1,ev s.sl p.2)) K
 | .load t x=>ldOp Θ s.o t (ev s.sl x) (fun v=>K v s.o s.nk)
 | .store t x y=>stOp Θ s.o t (ev s.sl x) (ev s.sl y) (fun o'=>K .any o' s.nk)
 | .nilCheck x=>ncOp s.o (ev s.sl x)∧K (ev s.sl x) s.o s.nk
 | .binOp b t x y _=>bnOp Θ s.o b t (ev s.sl x) (ev s.sl y) (fun v=>K v s.o s.nk)
 | .unOp b _ x=>∃ r,unOpD b (ev s.sl x)=some r∧K (.d r) s.o s.nk
 | .convert src dst x=>coOp Θ s.o src dst (ev s.sl x) (fun v=>K v s.o s.nk)
 | .makeFunc fn fs cs=>match fn with
  | .func f=>K (.clo f (fs.toList.map (ev s.sl)) (cs.toList.map (ev s.sl))) s.o s.nk
  | _=>False
 | .slice t x lo hi mx=>slOp Θ s.o s.nk t (ev s.sl x) (lo.map (ev s.sl)) (hi.map (ev s.sl)) (mx.map (ev s.sl)) K
 | .fieldAddr t x f=>fdOp Θ s.o t (ev s.sl x) f (fun v=>K v s.o s.nk)
 | .field t x f=>fvOp Θ t (ev s.sl x) f (fun v=>K v s.o s.nk)
 | .indexAddr t x ix=>ixOp Θ s.o t (ev s.sl x) (ev s.sl ix) (fun v=>K v s.o s.nk)
 | .index t x ix=>∃ i l k n,Θ t=some i∧i.k=.str∧ev s.sl x=.d (.str l)∧ev s.sl ix=.d (.int k n)∧0≤n∧n.toNat < l.length∧K (.d (.int .u8 (bAt l n.toNat))) s.o s.nk
 | .extract x q=>∃ xs c,ev s.sl x=.tup xs∧xs[q]?=some c∧K c s.o s.nk
 | .call c=>match c.callee with
  | .builtin b=>blOp Θ s b c.argTypes c.args.toList K
  | .value x=>∃ f fs cs,ev s.sl x=.clo f fs cs∧Spec P f (fs++c.args.toList.map (ev s.sl)++cs) s.o s.nk K
  | _=>False
 | .range t x=>∃ i l,Θ t=some i∧i.k=.str∧ev s.sl x=.d (.str l)∧K (.raw s.nk) (upd s.o s.nk (some (.raw (itOb l 0)))) (s.nk+1)
 | .next x b=>b=true∧∃ k l pos,ev s.sl x=.raw k∧s.o k=some (.raw (itOb l pos))∧
  if pos < l.length then K (.tup [.d (.bool true),.d (.int .i64 pos),.d (.int .i32 (Utf8.decode ⟨l.toArray⟩ pos).1)]) (upd s.o k (some (.raw (itOb l (pos+(Utf8.decode ⟨l.toArray⟩ pos).2))))) s.nk
  else K (.tup [.d (.bool false)]) s.o s.nk
 | .makeMap t r=>r=none∧K (.raw s.nk) (upd s.o s.nk (some (.raw (setOb [])))) (s.nk+1)
 | .lookup t m x b=>b=false∧∃ kt e i j je q ks k,Θ t=some i∧i.k=.map kt e∧Θ kt=some j∧j.k=.str∧Θ e=some je∧je.z=some [.bool false]∧je.k=.bool∧ev s.sl m=.raw q∧s.o q=some (.raw (setOb ks))∧ev s.sl x=.d (.str k)∧K (.d (.bool (decide (k∈ks)))) s.o s.nk
 | .mapUpdate t m x y=>∃ kt e i j q ks k,Θ t=some i∧i.k=.map kt e∧Θ kt=some j∧j.k=.str∧ev s.sl m=.raw q∧s.o q=some (.raw (setOb ks))∧ev s.sl x=.d (.str k)∧ev s.sl y=.d (.bool true)∧k ∉ ks∧K .any (upd s.o q (some (.raw (setOb (ks++[k]))))) s.nk
 | _=>False
def nOp (Θ:Tab) (op:Op) (s:St) (K:SV→(Nat→Option AO)→Nat→Prop):Prop:=
 (∃ v,nQ Θ op (ev s.sl) s.o=some v∧K v s.o s.nk)∨∃ r,nW Θ op (ev s.sl) s.o s.nk=some r∧K r.1 (upds s.o r.2.1) r.2.2
def vOp (P:Program) (Θ:Tab) (op:Op) (s:St) (K:SV→(Nat→Option AO)→Nat→Prop):Prop:=vOp0 P Θ op s K∨nOp Θ op s K
def Eff (P:Program) (R:Value→World→Prop) (r:Result Next):Prop:=
 match r with
 | .ok (.value v) w'=>R v w'
 | .ok .skip w'=>R undef w'
 | .ok (.enter g asx) w'=>Calls P g asx w' fun e w''=>∃ v,e=.returned v∧R v w''
 | .ok (.row r asx) w'=>Rows P r asx w' R
 | _=>False
theorem Eff.of_done {P:Program} {w:World} {S:Nat→Prop} {γ:Nat→Value} {o:Nat→Option AO} {nk:Nat} {r:Result Next} {v:SV} {o':Nat→Option AO} {nk':Nat} {K:SV→(Nat→Option AO)→Nat→Prop}
    (h:Done w S γ o nk r v o' nk') (hK:K v o' nk'):Eff P (Post P w S γ o nk K) r:=by
  obtain ⟨u,w',S',γ',hr,h1,h2,h3,h4⟩:=h;rcases hr with rfl | ⟨rfl,rfl⟩
  · exact ⟨v,o',nk',S',γ',hK,h1,h2,h3,h4⟩
  · exact ⟨v,o',nk',S',γ',hK,h1,h2,h3,h4⟩
section
variable {P:Program} {Θ:Tab} {s:St} {a:Act} {w:World} {S:Nat→Prop} {γ:Nat→Value} {op:Oper}
theorem list_one {α:Type} {xs:Array α} {x:α} (h:xs.toList=[x]):xs=#[x]:=by apply Array.ext';simpa using h
theorem list_two {α:Type} {xs:Array α} {x y:α} (h:xs.toList=[x,y]):xs=#[x,y]:=by apply Array.ext';simpa using h
theorem bl_sound (hΘ:TabOk P Θ) (hf:Fr s a w S γ) {b:Builtin} {c:Call} {K:SV→(Nat→Option AO)→Nat→Prop} (ho:op.op=.call c) (hc:c.callee=.builtin b) (h:blOp Θ s b c.argTypes c.args.toList K) :
    Eff P (Post P w S γ s.o s.nk K) ((execOp a.eval op).run P w):=by
  obtain ⟨ce,ar,ts⟩:=c;simp only at hc h;subst hc;unfold blOp at h;split at h
  · rename_i x hx;obtain rfl:=list_one hx;obtain ⟨v,h1,h2⟩:=done_len hΘ hf ho h;exact Eff.of_done h1 h2
  · rename_i x y hx;obtain rfl:=list_two hx;obtain ⟨v,o',nk',h1,h2⟩:=done_append hΘ hf ho h;exact Eff.of_done h1 h2
  · rename_i x y hx;obtain rfl:=list_two hx;obtain ⟨r,h1,h2⟩:=h;exact Eff.of_done (done_mm hf (.inl rfl) ho h1) h2
  · rename_i x y hx;obtain rfl:=list_two hx;obtain ⟨r,h1,h2⟩:=h;exact Eff.of_done (done_mm hf (.inr rfl) ho h1) h2
  · exact h.elim
theorem vOp0_sound (hΘ:TabOk P Θ) (hf:Fr s a w S γ) {K:SV→(Nat→Option AO)→Nat→Prop} (h:vOp0 P Θ op.op s K):Eff P (Post P w S γ s.o s.nk K) ((execOp a.eval op).run P w):=by
 unfold vOp0 at h;split at h
 case h_1 x hx=>exact Eff.of_done (done_move hf (.inl hx)) h
 case h_2 x hx=>exact Eff.of_done (done_move hf (.inr hx)) h
 case h_3 c x y hx=>obtain ⟨b,h1,h2⟩:=h;exact Eff.of_done (done_pick hf hx h1) h2
 case h_4 e hx=>obtain ⟨i,l,h1,h2,h3⟩:=h;exact Eff.of_done (done_alloc hΘ hf hx h1 h2) h3
 case h_5 e x hx=>obtain ⟨cs,h1,h2⟩:=h;exact Eff.of_done (done_box hf hx h1) h2
 case h_6 t parts hx=>obtain ⟨v,h1,h2⟩:=done_build hΘ hf hx h;exact Eff.of_done h1 h2
 case h_7 t n parts hx=>obtain ⟨v,o',nk',h1,h2⟩:=done_buildSlice hΘ hf hx h;exact Eff.of_done h1 h2
 case h_8 t x hx=>obtain ⟨v,h1,h2⟩:=done_load hΘ hf hx h;exact Eff.of_done h1 h2
 case h_9 t x y hx=>obtain ⟨o',h1,h2⟩:=done_store hΘ hf hx h;exact Eff.of_done h1 h2
 case h_10 x hx=>
  obtain ⟨h1,h2⟩:=h;refine Eff.of_done (Done.now hf.sto (u:=a.eval x) ?_ (hf.ev x) (hf.lt x)) h2;have hv:=hf.ev x;generalize Abs.ev s.sl x=c at h1 hv;generalize hu:a.eval x=u at hv;unfold ncOp at h1;split at h1
  ·obtain ⟨cs,hcs⟩:=h1;cases hv with
   | loc _ _ _ hl=>
    obtain ⟨g,_,rfl⟩:=hl cs hcs;simp [execOp,hx,hu]
  ·cases hv with
   | el=>simp [execOp,hx,hu]
  ·cases hv with
   | clo=>simp [execOp,hx,hu]
  ·exact h1.elim
 case h_11 b t x y u hx=>obtain ⟨v,h1,h2⟩:=done_binOp hΘ hf hx h;exact Eff.of_done h1 h2
 case h_12 b t x hx=>obtain ⟨r,h1,h2⟩:=h;exact Eff.of_done (done_unOp hf hx h1) h2
 case h_13 src dst x hx=>obtain ⟨v,h1,h2⟩:=done_convert hΘ hf hx h;exact Eff.of_done h1 h2
 case h_14 fn fs cs hx=>
  split at h
  ·exact Eff.of_done (done_makeFunc hf hx) h
  ·exact h.elim
 case h_15 t x lo hi mx hx=>obtain ⟨v,o',nk',h1,h2⟩:=done_slice hΘ hf hx h;exact Eff.of_done h1 h2
 case h_16 t x f hx=>obtain ⟨v,h1,h2⟩:=done_fieldAddr hΘ hf hx h;exact Eff.of_done h1 h2
 case h_17 t x f hx=>obtain ⟨v,h1,h2⟩:=done_field hΘ hf hx h;exact Eff.of_done h1 h2
 case h_18 t x ix hx=>obtain ⟨v,h1,h2⟩:=done_indexAddr hΘ hf hx h;exact Eff.of_done h1 h2
 case h_19 t x ix hx=>obtain ⟨i,l,k,n,h1,h2,h3,h4,h5,h6,h7⟩:=h;exact Eff.of_done (done_index hΘ hf hx h1 h2 h3 h4 h5 h6) h7
 case h_20 x q hx=>obtain ⟨xs,c,h1,h2,h3⟩:=h;exact Eff.of_done (done_extract hf hx h1 h2) h3
 case h_21 c hx=>
  split at h
  ·rename_i b hb;exact bl_sound hΘ hf hx hb h
  ·rename_i x hc;obtain ⟨f,fs,cs,h1,h2⟩:=h;have hv:=hf.ev x;have hl:=hf.lt x;rw [h1] at hv hl;generalize hu:a.eval x=u at hv;cases hv with
   | clo _ _ _ us vs e1 e2 e3 e4=>
    have hspec:=h2 w S γ (us++c.args.toList.map a.eval++vs) hf.sto (by simp [e1,e3]) (fun i cc v hc' hv'=>?_) (lts_of fun i cc hc'=>?_)
    ·unfold Does at hspec;have hrun:(execOp a.eval op).run P w=(callFunc f (us++c.args.toList.map a.eval++vs).toArray).run P w:=by
      have e:(us.toArray++c.args.map a.eval++vs.toArray)=(us++c.args.toList.map a.eval++vs).toArray:=by
       apply Array.ext';simp
      unfold execOp;simp only [hx,resolve,hc,hu,Deferred.ofValue,Sem.run_bind,Sem.run_pure,Result.andThen_ok,invoke,e]
     rw [hrun];unfold Eff;generalize (callFunc f _).run P w=r at hspec;cases r with
     | ok n w'=>cases n <;> first | exact hspec | exact hspec.elim
     | halt x w'=>exact hspec.elim
    ·rcases Nat.lt_or_ge i (fs++c.args.toList.map (Abs.ev s.sl)).length with hlt | hge
     ·rw [List.getElem?_append_left hlt] at hc';rw [List.getElem?_append_left (by simpa [e1] using hlt)] at hv';rcases Nat.lt_or_ge i fs.length with hlt2 | hge2
      ·rw [List.getElem?_append_left hlt2] at hc';rw [List.getElem?_append_left (by omega)] at hv';exact e2 i cc v hc' hv'
      ·rw [List.getElem?_append_right hge2,List.getElem?_map] at hc';rw [List.getElem?_append_right (by omega),e1,List.getElem?_map] at hv';obtain ⟨y,hy,rfl⟩:=Option.map_eq_some_iff.1 hc';rw [hy] at hv';simp only [Option.map_some,Option.some.injEq] at hv';subst hv';exact hf.ev y
     ·rw [List.getElem?_append_right hge] at hc';rw [List.getElem?_append_right (by simpa [e1] using hge)] at hv';have:(us++c.args.toList.map a.eval).length=(fs++c.args.toList.map (Abs.ev s.sl)).length:=by simp [e1]
      rw [this] at hv';exact e4 _ cc v hc' hv'
    ·have hm:=List.mem_of_getElem? hc';simp only [List.mem_append,List.mem_map] at hm;rcases hm with (hm | ⟨y,_,rfl⟩) | hm
     ·obtain ⟨j,hj⟩:=List.getElem?_of_mem hm;exact lts_get hl.1 j cc hj
     ·exact hf.lt y
     ·obtain ⟨j,hj⟩:=List.getElem?_of_mem hm;exact lts_get hl.2 j cc hj
  ·exact h.elim
 case h_22 t x hx=>obtain ⟨i,l,h1,h2,h3,h4⟩:=h;exact Eff.of_done (done_range hΘ hf hx h1 h2 h3) h4
 case h_23 x b hx=>
  obtain ⟨rfl,k,l,pos,h1,h2,h3⟩:=h;have hd:=done_next (P:=P) hf hx h1 h2;by_cases hp:pos < l.length
  ·rw [if_pos hp] at h3 hd;exact Eff.of_done hd h3
  ·rw [if_neg hp] at h3 hd;exact Eff.of_done hd h3
 case h_24 t r hx=>obtain ⟨rfl,h⟩:=h;exact Eff.of_done (done_makeMap hf hx) h
 case h_25 t m x b hx=>obtain ⟨rfl,kt,e,i,j,je,q,ks,k,h1,h2,h3,h4,h5,h6,h7,h8,h9,h10,h11⟩:=h;exact Eff.of_done (done_lookup hΘ hf hx h1 h2 h3 h4 h5 h6 h7 h8 h9 h10) h11
 case h_26 t m x y hx=>obtain ⟨kt,e,i,j,q,ks,k,h1,h2,h3,h4,h5,h6,h7,h8,h9,h10⟩:=h;exact Eff.of_done (done_mapUpdate hΘ hf hx h1 h2 h3 h4 h5 h6 h7 h8 h9) h10
 case h_27=>exact h.elim
theorem vOp_sound (hΘ:TabOk P Θ) (hf:Fr s a w S γ) {K:SV→(Nat→Option AO)→Nat→Prop} (h:vOp P Θ op.op s K):Eff P (Post P w S γ s.o s.nk K) ((execOp a.eval op).run P w):=by
 rcases h with h | ⟨v,h,hK⟩ | ⟨r,h,hK⟩
 ·exact vOp0_sound hΘ hf h
 ·exact Eff.of_done (nQ_sound hΘ hf h) hK
 ·exact Eff.of_done (nW_sound hΘ hf h) hK
end
def pt (sl:Nat→SV):Option Nat→SV→Nat→SV
 | some d,v=>upd sl d v
 | none,_=>sl
def dstOk (n:Nat):Option Nat→Bool
 | some d=>decide (d < n)
 | none=>true
theorem Rl.fr {E:Ent} {s:St} {a:Act} {w:World} {S:Nat→Prop} {γ:Nat→Value} (h:Rl E s a w S γ):Fr s a w S γ:=⟨h.sto,h.sl,h.slt⟩
theorem put_size (a:Act) (d:Option Nat) (u:Value):(a.put d u).tmps.size=a.tmps.size:=by
 cases d <;> simp [Act.put]
theorem put_defers (a:Act) (d:Option Nat) (u:Value):(a.put d u).defers=a.defers:=by
 cases d <;> simp [Act.put]
theorem Rl.put {E:Ent} {s:St} {a:Act} {w w':World} {S S':Nat→Prop} {γ γ':Nat→Value} {o':Nat→Option AO} {nk':Nat} {d:Option Nat} {v:SV} {u:Value}
    (h:Rl E s a w S γ) (hd:dstOk E.n d=true) (hs:Sto w' S' γ' o' nk') (ht:Tr w S γ s.o s.nk w' S' γ' o' nk') (hr:SR w' S' γ' o' v u) (hl:v.lt nk') :
    Rl E { sl:=pt s.sl d v,o:=o',nk:=nk' } (a.put d u) w' S' γ' where
  sto:=hs
  tr:=h.tr.trans ht
  df:=by rw [put_defers];exact h.df
  nn:=by rw [put_size];exact h.nn
  sl:=fun x=>by
    cases d with
    | none=>exact (h.sl x).tr h.sto ht (h.slt x)
    | some d=>
      simp only [dstOk,decide_eq_true_eq] at hd;have hlt:d < a.tmps.size:=by rw [h.nn];exact hd
      by_cases hx:x=d
      · subst hx;have:(a.put (some x) u).tmps.getD x undef=u:=by simp [Act.put,hlt]
        rw [this];show SR w' S' γ' o' (upd s.sl x v x) u;rw [upd_same];exact hr
      · have:(a.put (some d) u).tmps.getD x undef=a.tmps.getD x undef:=by
          simp [Act.put,Array.getElem?_setIfInBounds_ne (Ne.symm hx)]
        rw [this];show SR w' S' γ' o' (upd s.sl d v x) _;rw [upd_ne _ _ hx];exact (h.sl x).tr h.sto ht (h.slt x)
  slt:=fun x=>by
    cases d with
    | none=>exact SV.lt_mono ht.nks (h.slt x)
    | some d=>
      show (upd s.sl d v x).lt nk';by_cases hx:x=d
      · subst hx;rw [upd_same];exact hl
      · rw [upd_ne _ _ hx];exact SV.lt_mono ht.nks (h.slt x)
def gsl (ops:Array Oper) (s:St) (j:Nat):SV:=
 match (ops[j]?).bind (·.dst) with
 | some d=>s.sl d
 | none=>.any
def pOp (P:Program) (Θ:Tab) (op:Op) (s:St) (v:SV):Prop:=vOp P Θ op s fun v' o' nk'=>v'=v∧o'=s.o∧nk'=s.nk
def cnd (c:Bool) (v:SV):SV:=if c=true then v else .tup []
def GC (g:SV) (want c:Bool):Prop:=
 (∃ b,g=.d (.bool b)∧c=(if want=true then b else !b))∨∃ c0 b,g=cnd c0 (.d (.bool b))∧c=(c0 && (if want=true then b else !b))
theorem GC.t (b:Bool):GC (.d (.bool b)) true b:=.inl ⟨b,rfl,rfl⟩
theorem GC.f (b:Bool):GC (.d (.bool b)) false (!b):=.inl ⟨b,rfl,rfl⟩
theorem GC.ct (c b:Bool):GC (cnd c (.d (.bool b))) true (c && b):=.inr ⟨c,b,rfl,rfl⟩
theorem GC.cf (c b:Bool):GC (cnd c (.d (.bool b))) false (c && !b):=.inr ⟨c,b,rfl,rfl⟩
def gOp (P:Program) (Θ:Tab) (ops:Array Oper) (op:Oper) (s:St) (v:SV):Prop:=
 match op.guard with
 | none=>pOp P Θ op.op s v
 | some (j,want)=>∃ c v',GC (gsl ops s j) want c∧(c=true→pOp P Θ op.op s v')∧v=cnd c v'
def vOps (P:Program) (Θ:Tab) (ops:Array Oper) (K:St→Prop):List Oper→St→Prop
 | [],s=>K s
 | op :: r,s=>match op.guard with
  | none=>vOp P Θ op.op s fun v o' nk'=>vOps P Θ ops K r { sl:=pt s.sl op.dst v,o:=o',nk:=nk' }
  | some (j,want)=>∃ c v',GC (gsl ops s j) want c∧(c=true→pOp P Θ op.op s v')∧vOps P Θ ops K r { sl:=pt s.sl op.dst (cnd c v'),o:=s.o,nk:=s.nk }
section
variable {P:Program} {Θ:Tab} {n k0:Nat} {Q:Exit→St→Prop}
theorem upon_of_eff {o:Oper} {a:Act} {next:Act→World→Prop} {Q:Exit→Act→World→Prop} {R:Value→World→Prop} {r:Result Next} (h:Eff P R r) (hn:∀ v w',R v w'→next (a.put o.dst v) w'):o.upon P a next Q r:=by
 unfold Eff at h;split at h
 ·exact hn _ _ h
 ·exact hn _ _ h
 ·refine h.mono ?_;rintro e w'' ⟨v,rfl,hR⟩;exact hn _ _ hR
 ·exact h.mono hn
 ·exact h.elim
theorem op_step {E:Ent} {s:St} {a:Act} {w:World} (hΘ:TabOk P Θ) {o:Oper} {next:Act→World→Prop} {Q:Exit→Act→World→Prop} {K:SV→(Nat→Option AO)→Nat→Prop} (hr:Rel E s a w) (hd:dstOk E.n o.dst=true)
    (h:vOp P Θ o.op s K) (hn:∀ v o' nk' a' w',K v o' nk'→Rel E { sl:=pt s.sl o.dst v,o:=o',nk:=nk' } a' w'→next a' w'):o.wp P a w next Q:=by
  obtain ⟨S,γ,hr⟩:=hr;refine upon_of_eff (vOp_sound hΘ hr.fr h) ?_;rintro u w' ⟨v,o',nk',S',γ',hK,h1,h2,h3,h4⟩;exact hn v o' nk' _ _ hK ⟨S',γ',hr.put hd h1 h2 h3 h4⟩
theorem guard_yield {E:Ent} {s:St} {a:Act} {w:World} {ops:Array Oper} {j:Nat} {want c:Bool} (hr:Rel E s a w) (h:GC (gsl ops s j) want c):(yielded ops a.tmps j == some want)=c:=by
 obtain ⟨S,γ,hr⟩:=hr;have key:∀ b,gsl ops s j=.d (.bool b)→yielded ops a.tmps j=some b:=by
  intro b h;unfold gsl at h;unfold yielded;split at h
  ·rename_i d hd;rw [hd];have h1:=hr.sl d;rw [h] at h1;generalize hu:a.tmps.getD d undef=u at h1;cases h1 with
   | d _ _ hrd=>cases hrd with
    | bool=>
     cases ht:a.tmps[d]? with
     | none=>simp [ht,undef] at hu
     | some v=>simp [ht] at hu;simp [ht,hu]
  ·cases h
 have key0:gsl ops s j=.tup []→yielded ops a.tmps j=none:=by
  intro h;unfold gsl at h;unfold yielded;split at h
  ·rename_i d hd;rw [hd];have h1:=hr.sl d;rw [h] at h1;generalize hu:a.tmps.getD d undef=u at h1;cases h1 with
   | tup xs vs hv hr'=>
    cases ht:a.tmps[d]? with
    | none=>simp [ht]
    | some v=>simp [ht] at hu;simp [ht,hu]
  ·cases h
 rcases h with ⟨b,h1,rfl⟩ | ⟨c0,b,h1,rfl⟩
 ·rw [key b h1];cases b <;> cases want <;> rfl
 ·cases c0 with
  | true=>
   rw [key b h1];cases b <;> cases want <;> rfl
  | false=>
   rw [key0 h1];cases b <;> cases want <;> rfl
theorem g_step {E:Ent} {s:St} {a:Act} {w:World} (hΘ:TabOk P Θ) {ops:Array Oper} {o:Oper} {next:Act→World→Prop} {Q:Exit→Act→World→Prop} {v:SV} (hr:Rel E s a w) (hd:dstOk E.n o.dst=true)
    (h:gOp P Θ ops o s v) (hn:∀ a' w',Rel E { sl:=pt s.sl o.dst v,o:=s.o,nk:=s.nk } a' w'→next a' w') :
    if Region.wanted o (yielded ops a.tmps) then o.wp P a w next Q else next (a.put o.dst undef) w:=by
  unfold gOp at h;unfold Region.wanted;split at h
  · rename_i hg;rw [hg];simp only [if_true];refine op_step hΘ hr hd h ?_;rintro v' o' nk' a' w' ⟨rfl,rfl,rfl⟩ hr';exact hn a' w' hr'
  · rename_i j want hg;rw [hg];obtain ⟨c,v',h1,h2,rfl⟩:=h;have hy:=guard_yield hr h1;simp only [hy];cases c with
    | true=>
      rw [if_pos rfl];refine op_step hΘ hr hd (h2 rfl) ?_;rintro v' o' nk' a' w' ⟨rfl,rfl,rfl⟩ hr';exact hn a' w' hr'
    | false=>
      rw [if_neg (by simp)];obtain ⟨S,γ,hr⟩:=hr;exact hn _ _ ⟨S,γ,hr.put hd hr.sto (Tr.refl _ _ _ _ _) (.tup [] [] rfl (by simp)) trivial⟩
theorem vOps_sound {E:Ent} (hΘ:TabOk P Θ) {ops:Array Oper} {K:St→Prop} {Q:Exit→Act→World→Prop} (hq:∀ s a w,K s→Rel E s a w→Q .normal a w) :
    ∀ (l:List Oper) (s:St) (a:Act) (w:World),(l.all fun o=>dstOk E.n o.dst)=true→Rel E s a w→vOps P Θ ops K l s→wpList P ops Q l a w
  | [],s,a,w,_,hr,h=>hq s a w h hr
  | o :: r,s,a,w,hd,hr,h=>by
    simp only [List.all_cons,Bool.and_eq_true] at hd;refine wpList_step fun K' hK'=>?_;unfold vOps at h;split at h
    · rename_i hg;simp only [Region.wanted,hg,if_true];refine op_step hΘ hr hd.1 h ?_;intro v o' nk' a' w' h1 h2;exact hK' a' w' (vOps_sound hΘ hq r _ a' w' hd.2 h2 h1)
    · rename_i j want hg;obtain ⟨c,v',h1,h2,h3⟩:=h;have hgo:gOp P Θ ops o s (cnd c v'):=by
        unfold gOp;rw [hg];exact ⟨c,v',h1,h2,rfl⟩
      exact g_step hΘ hr hd.1 hgo fun a' w' h4=>hK' a' w' (vOps_sound hΘ hq r _ a' w' hd.2 h4 h3)
theorem WP.region (hΘ:TabOk P Θ) {s:St} {id:Nat} {ops:Array Oper} (hd:(ops.toList.all fun o=>dstOk n o.dst)=true) (h:vOps P Θ ops (Q .normal) ops.toList s):WP P n k0 (.region id ops false) s Q:=by
 intro E a w h1 h2 h3;refine wp_region_list ?_;exact vOps_sound hΘ (fun s a w hk hr=>⟨s,hr,hk⟩) ops.toList s a w (by rw [h1];exact hd) h3 h
attribute [irreducible] cnd
theorem WP.cond {s:St} {x:Operand} {c d:Code} {b:Bool} (hx:ev s.sl x=.d (.bool b)) (ht:b=true→WP P n k0 c s Q) (hf:b=false→WP P n k0 d s Q):WP P n k0 (.cond x c d) s Q:=by
 intro E a w h1 h2 h3;have hv:a.eval x=.bool b:=by
  obtain ⟨S,γ,hr⟩:=h3;have hr:=hr.fr.ev x;rw [hx] at hr;generalize a.eval x=u at hr;cases hr with
  | d _ _ hrd=>cases hrd with
   | bool=>rfl
 exact wp_cond_split hv (fun hb=>ht hb E a w h1 h2 h3) (fun hb=>hf hb E a w h1 h2 h3)
end
def resOf (ts:List Nat) (s:St):SV:=
 match ts with
 | [t]=>s.sl t
 | ts=>.tup (ts.map s.sl)
def retQ (ts:List Nat) (Q:SV→(Nat→Option AO)→Nat→Prop):Exit→St→Prop
 | .normal,s=>Q (resOf ts s) s.o s.nk
 | .ret,s=>Q (resOf ts s) s.o s.nk
 | _,_=>False
def slots (args:List SV):Nat→SV:=fun u=>args.getD u .any
structure FnOk (P:Program) (f:FuncId) (n:Nat) (ts:List Nat) (c:Code):Prop where
 mk ::
 out : ∃ fn, P.funcs[f]? = some fn ∧ fn.body = some c ∧ (fn.name == "runtime.NumGoroutine") = false ∧ fn.results.toList = ts.map ResultVar.tmp ∧ fn.ntmps = n
theorem run_mapM_ok {P:Program} {w:World} {α β:Type} {f:α→Sem β} {g:α→β}:∀ (l:List α),(∀ x∈l,(f x).run P w=.ok (g x) w)→(l.mapM f).run P w=.ok (l.map g) w
 | [],_=>by simp
 | x :: l,h=>by
  rw [List.mapM_cons];simp [h x (by simp),run_mapM_ok l (fun y hy=>h y (by simp [hy]))]
def resV (tmps:Array Value):List Nat→Value
 | [t]=>tmps.getD t undef
 | ts=>.tuple (ts.map fun t=>tmps.getD t undef).toArray
theorem run_results {P:Program} {w:World} {fn:Func} {ts:List Nat} (h:fn.results.toList=ts.map ResultVar.tmp) (tmps:Array Value) :
    (results fn tmps).run P w=.ok (resV tmps ts) w:=by
  have hr:fn.results=(ts.map ResultVar.tmp).toArray:=by apply Array.ext';simpa using h
  unfold results;rw [hr,List.mapM_toArray];have:=run_mapM_ok (P:=P) (w:=w) (f:=fun x=>(match x with | .tmp t=>pure (tmps.getD t undef) | .cell a t=>do loadVar t (← asAddr (tmps.getD a undef)):Sem Value)) (g:=fun x=>match x with | .tmp t=>tmps.getD t undef | .cell a t=>undef) (ts.map ResultVar.tmp) (fun x hx=>by
    obtain ⟨t,_,rfl⟩:=List.mem_map.1 hx;simp)
  simp only [Sem.run_bind,Sem.run_map];refine Eq.trans (congrArg (fun r=>Result.andThen (Result.andThen r _) _) this) ?_
  match ts with
  | []=>simp [resV]
  | [t]=>simp [resV]
  | t :: u :: r=>simp [resV]
theorem Spec.of_body {P:Program} {f:FuncId} {n:Nat} {ts:List Nat} {c:Code} {args:List SV} {o:Nat→Option AO} {nk:Nat} {Q:SV→(Nat→Option AO)→Nat→Prop} (hf:FnOk P f n ts c) (hn:args.length≤n)
    (h:WP P n nk c { sl:=slots args,o:=o,nk:=nk } (retQ ts Q)):Spec P f args o nk Q:=by
  intro w S γ vs h1 h2 h3 h4;obtain ⟨fn,e1,e2,e3,e4,e5⟩:=hf.out;have hcf:(callFunc f vs.toArray).run P w=.ok (.enter f vs.toArray) w:=by
    simp only [beq_eq_false_iff_ne,ne_eq] at e3;simp [callFunc,e1,e2,e3]
  unfold Does;rw [hcf];refine calls_of_wp e1 e2 ?_;have hrel:Rel { w:=w,S:=S,γ:=γ,o:=o,nk:=nk,n:=n } { sl:=slots args,o:=o,nk:=nk } { tmps:=vs.toArray++Array.replicate (fn.ntmps - vs.toArray.size) undef,defers:=[] } w:=by
    refine ⟨S,γ,h1,Tr.refl _ _ _ _ _,fun u=>?_,fun u=>?_,rfl,by simp;omega⟩
    · simp only [slots];rw [List.getD_eq_getElem?_getD];cases hu:args[u]? with
      | none=>exact .any _
      | some c=>
        have hlt:u < args.length:=(List.getElem?_eq_some_iff.1 hu).1;have hv:vs[u]?=some (vs[u]'(by omega)):=List.getElem?_eq_getElem (by omega);have:(vs.toArray++Array.replicate (fn.ntmps - vs.toArray.size) undef).getD u undef=vs[u]'(by omega):=by
          simp [Array.getElem?_append,show u < vs.length by omega]
        show SR w S γ o c ((vs.toArray++Array.replicate (fn.ntmps - vs.toArray.size) undef).getD u undef);rw [this];exact h3 u c _ hu hv
    · simp only [slots];rw [List.getD_eq_getElem?_getD];cases hu:args[u]? with
      | none=>trivial
      | some c=>exact lts_get h4 u c hu
  refine Go.wp_mono (h _ _ w rfl rfl hrel) ?_;rintro e a' w' ⟨s',⟨S',γ',hr⟩,q⟩;have key:Q (resOf ts s') s'.o s'.nk→a'.defers=[]∧∃ v,(results fn a'.tmps).run P w'=.ok v w'∧∃ u,Ending.returned v=.returned u∧Post P w S γ o nk Q u w':=by
    intro q;refine ⟨hr.df,_,run_results e4 _,_,rfl,resOf ts s',s'.o,s'.nk,S',γ',q,hr.sto,hr.tr,?_,?_⟩
    · match ts with
      | []=>exact .tup [] [] rfl (by simp)
      | [t]=>exact hr.sl t
      | t :: u :: r=>
        refine .tup _ _ (by simp) fun i c v hc hv=>?_;rw [List.getElem?_map] at hc hv;obtain ⟨x,hx,rfl⟩:=Option.map_eq_some_iff.1 hc;rw [hx] at hv;simp only [Option.map_some,Option.some.injEq] at hv;subst hv;exact hr.sl x
    · match ts with
      | []=>exact lts_of (by simp)
      | [t]=>exact hr.slt t
      | t :: u :: r=>
        refine lts_of fun i c hc=>?_;rw [List.getElem?_map] at hc;obtain ⟨x,hx,rfl⟩:=Option.map_eq_some_iff.1 hc;exact hr.slt x
  cases e with
  | normal=>exact key q
  | ret=>exact key q
  | _=>exact q.elim
theorem vOp0_congr {P:Program} {Θ:Tab} {op:Op} {s s':St} {K:SV→(Nat→Option AO)→Nat→Prop} (he:∀ x∈op.operands,ev s.sl x=ev s'.sl x) (ho:s.o=s'.o) (hk:s.nk=s'.nk) (h:vOp0 P Θ op s K):vOp0 P Θ op s' K:=by
 obtain ⟨sl,o,nk⟩:=s;obtain ⟨sl',o',nk'⟩:=s';simp only at he ho hk;subst ho;subst hk;have hl:∀ (xs:Array Operand),(∀ x∈xs,ev sl x=ev sl' x)→xs.toList.map (ev sl)=xs.toList.map (ev sl'):=fun xs hx=>List.map_congr_left fun x hm=>hx x (by simpa using hm);have hp:∀ (ps:Array (Nat×Operand)),(∀ x∈(ps.toList.map (·.2)).toArray,ev sl x=ev sl' x)→(ps.toList.map fun p=>(p.1,ev sl p.2))=ps.toList.map fun p=>(p.1,ev sl' p.2):=fun ps hx=>
  List.map_congr_left fun p hm=>by rw [hx p.2 (by simp;exact ⟨p.1,by simpa using hm⟩)]
 have hm:∀ (x:Option Operand),(∀ y∈x.toArray,ev sl y=ev sl' y)→x.map (ev sl)=x.map (ev sl'):=fun x hx=>by
  cases x with
  | none=>rfl
  | some x=>simp [hx x (by simp)]
 cases op with
 | move x=>simpa only [vOp0,he x (by simp [Op.operands])] using h
 | assign x=>simpa only [vOp0,he x (by simp [Op.operands])] using h
 | pick c x y=>simpa only [vOp0,he c (by simp [Op.operands]),he x (by simp [Op.operands]),he y (by simp [Op.operands])] using h
 | alloc e=>exact h
 | box e x=>simpa only [vOp0,he x (by simp [Op.operands])] using h
 | build t ps=>simpa only [vOp0,hp ps he] using h
 | buildSlice t n ps=>simpa only [vOp0,hp ps he] using h
 | load t x=>simpa only [vOp0,he x (by simp [Op.operands])] using h
 | store t x y=>simpa only [vOp0,he x (by simp [Op.operands]),he y (by simp [Op.operands])] using h
 | nilCheck x=>simpa only [vOp0,he x (by simp [Op.operands])] using h
 | binOp b t x y u=>simpa only [vOp0,he x (by simp [Op.operands]),he y (by simp [Op.operands])] using h
 | unOp b t x=>simpa only [vOp0,he x (by simp [Op.operands])] using h
 | convert a b x=>simpa only [vOp0,he x (by simp [Op.operands])] using h
 | makeFunc fn fs cs=>
  have h1:=hl fs fun x hx=>he x (by simp [Op.operands,hx]);have h2:=hl cs fun x hx=>he x (by simp [Op.operands,hx]);simpa only [vOp0,h1,h2] using h
 | slice t x lo hi mx=>
  have h1:=hm lo fun y hy=>he y (by simp only [Op.operands,Array.mem_append];exact .inl (.inl (.inr hy)));have h2:=hm hi fun y hy=>he y (by simp only [Op.operands,Array.mem_append];exact .inl (.inr hy));have h3:=hm mx fun y hy=>he y (by simp only [Op.operands,Array.mem_append];exact .inr hy);simpa only [vOp0,h1,h2,h3,he x (by simp [Op.operands])] using h
 | fieldAddr t x f=>simpa only [vOp0,he x (by simp [Op.operands])] using h
 | field t x f=>simpa only [vOp0,he x (by simp [Op.operands])] using h
 | indexAddr t x y=>simpa only [vOp0,he x (by simp [Op.operands]),he y (by simp [Op.operands])] using h
 | index t x y=>simpa only [vOp0,he x (by simp [Op.operands]),he y (by simp [Op.operands])] using h
 | extract x q=>simpa only [vOp0,he x (by simp [Op.operands])] using h
 | call c=>
  obtain ⟨ce,ar,ts⟩:=c;cases ce with
  | value f=>
   have h1:=he f (by simp [Op.operands,Call.operands]);have h2:=hl ar fun x hx=>he x (by simp [Op.operands,Call.operands,hx]);simpa only [vOp0,h1,h2] using h
  | invoke r m=>simp [vOp0] at h
  | builtin b=>
   have h2:∀ x∈ar.toList,ev sl x=ev sl' x:=fun x hx=>he x (by simp [Op.operands,Call.operands];simpa using hx);simp only [vOp0] at h ⊢;unfold blOp at h ⊢;split at h
   ·rename_i x hx;rw [hx] at h2;simpa only [h2 x (by simp)] using h
   ·rename_i x y hx;rw [hx] at h2;simpa only [h2 x (by simp),h2 y (by simp)] using h
   ·rename_i x y hx;rw [hx] at h2;simpa only [h2 x (by simp),h2 y (by simp)] using h
   ·rename_i x y hx;rw [hx] at h2;simpa only [h2 x (by simp),h2 y (by simp)] using h
   ·exact h.elim
 | range t x=>simpa only [vOp0,he x (by simp [Op.operands])] using h
 | next x b=>simpa only [vOp0,he x (by simp [Op.operands])] using h
 | makeMap t r=>exact h
 | lookup t m x b=>simpa only [vOp0,he m (by simp [Op.operands]),he x (by simp [Op.operands])] using h
 | mapUpdate t m x y=>simpa only [vOp0,he m (by simp [Op.operands]),he x (by simp [Op.operands]),he y (by simp [Op.operands])] using h
 | _=>exact h.elim
theorem vOp_congr {P:Program} {Θ:Tab} {op:Op} {s s':St} {K:SV→(Nat→Option AO)→Nat→Prop} (he:∀ x∈op.operands,ev s.sl x=ev s'.sl x) (ho:s.o=s'.o) (hk:s.nk=s'.nk) (h:vOp P Θ op s K):vOp P Θ op s' K:=by
 rcases h with h | ⟨v,h,hK⟩ | ⟨r,h,hK⟩
 ·exact .inl (vOp0_congr he ho hk h)
 ·exact .inr (.inl ⟨v,by rw [← nQ_congr he,← ho];exact h,by rw [← ho,← hk];exact hK⟩)
 ·exact .inr (.inr ⟨r,by rw [← nW_congr he,← ho,← hk];exact h,by rw [← ho];exact hK⟩)
def onsOf (o:Oper):List Nat:=(o.after.toList.filter fun e=>Region.binds .any e).map (·.on)
def flowAt (ops:Array Oper) (o p:Oper) (i j:Nat):Bool:=
 match p.dst with
 | none=>true
 | some d=>(i == j || !(o.dst == some d)) && (!(o.looksAt ops).contains d || (decide (j < i) && (onsOf o).contains j) || (decide (i < j) && (onsOf p).contains i))
def flowOk (ops:Array Oper):Bool:=
 ops.toList.zipIdx.all fun o=>(onsOf o.1).all (fun j=>decide (j < o.2)) && ops.toList.zipIdx.all fun p=>flowAt ops o.1 p.1 o.2 p.2
theorem flow_spec {ops:Array Oper} (h:flowOk ops=true) {i:Nat} {o:Oper} (hi:ops[i]?=some o):(∀ j∈onsOf o,j < i)∧∀ (j:Nat) (p:Oper),ops[j]?=some p→flowAt ops o p i j=true:=by
 have hmem:∀ {j:Nat} {p:Oper},ops[j]?=some p→(p,j)∈ops.toList.zipIdx:=fun {j p} hj=>by
  rw [List.mem_zipIdx_iff_getElem?];simpa using hj
 have h1:=List.all_eq_true.1 h _ (hmem hi);simp only [Bool.and_eq_true] at h1;refine ⟨fun j hj=>?_,fun j p hj=>List.all_eq_true.1 h1.2 _ (hmem hj)⟩;have:=List.all_eq_true.1 h1.1 j hj;simpa using this
def dOps (P:Program) (Θ:Tab) (ops:Array Oper) (K:St→Prop):List Oper→St→Prop
 | [],s=>K s
 | o :: r,s=>∃ v,gOp P Θ ops o s v∧dOps P Θ ops K r { sl:=pt s.sl o.dst v,o:=s.o,nk:=s.nk }
def slAt (sl:Nat→SV):List (Option Nat×SV)→Nat→SV
 | []=>sl
 | p :: r=>slAt (pt sl p.1 p.2) r
theorem slAt_miss {u:Nat}:∀ (q:List (Option Nat×SV)) (sl:Nat→SV),(∀ v,(some u,v) ∉ q)→slAt sl q u=sl u
 | [],sl,_=>rfl
 | (d,v) :: q,sl,h=>by
  rw [slAt,slAt_miss q _ fun v hv=>h v (by simp [hv])];cases d with
  | none=>rfl
  | some d=>
   refine upd_ne _ _ fun e=>h v ?_;simp [e]
theorem slAt_hit {u:Nat} {v:SV}:∀ (q:List (Option Nat×SV)) (sl:Nat→SV) (j:Nat),q[j]?=some (some u,v)→(∀ (i:Nat) (x:SV),q[i]?=some (some u,x)→i=j)→slAt sl q u=v
 | (d,x) :: q,sl,0,h,hu=>by
  simp only [List.getElem?_cons_zero,Option.some.injEq,Prod.mk.injEq] at h;obtain ⟨rfl,rfl⟩:=h;rw [slAt,slAt_miss q]
  ·exact upd_same _ _ _
  ·intro y hy;obtain ⟨i,hi⟩:=List.getElem?_of_mem hy;have:=hu (i+1) y (by simpa using hi);omega
 | (d,x) :: q,sl,j+1,h,hu=>by
  rw [slAt];refine slAt_hit q _ j (by simpa using h) fun i y hi=>?_;have:=hu (i+1) y (by simpa using hi);omega
theorem dOps_spec {P:Program} {Θ:Tab} {ops:Array Oper} {K:St→Prop}:∀ (l:List Oper) (s:St),dOps P Θ ops K l s→
    ∃ vs:List SV,vs.length=l.length∧(∀ (i:Nat) (o:Oper) (v:SV),l[i]?=some o→vs[i]?=some v→gOp P Θ ops o { sl:=slAt s.sl (((l.map (·.dst)).zip vs).take i),o:=s.o,nk:=s.nk } v)∧
      K { sl:=slAt s.sl ((l.map (·.dst)).zip vs),o:=s.o,nk:=s.nk }
  | [],s,h=>⟨[],rfl,by simp,h⟩
  | o :: r,s,h=>by
    obtain ⟨v,h1,h2⟩:=h;obtain ⟨vs,h3,h4,h5⟩:=dOps_spec r _ h2;refine ⟨v :: vs,by simp [h3],fun i p x hp hx=>?_,h5⟩;cases i with
    | zero=>
      simp only [List.getElem?_cons_zero,Option.some.injEq] at hp hx;subst hp;subst hx;exact h1
    | succ i=>exact h4 i p x (by simpa using hp) (by simpa using hx)
theorem gOp_congr {P:Program} {Θ:Tab} {ops:Array Oper} {o:Oper} {s s':St} {v:SV} (he:∀ u∈o.looksAt ops,s.sl u=s'.sl u) (ho:s.o=s'.o) (hk:s.nk=s'.nk) (h:gOp P Θ ops o s v):gOp P Θ ops o s' v:=by
 have hev:∀ x∈o.op.operands,ev s.sl x=ev s'.sl x:=fun x hx=>by
  cases x with
  | tmp t=>
   refine he t ?_;simp only [Oper.looksAt,List.mem_append,List.mem_filterMap];exact .inl ⟨.tmp t,by simpa using hx,rfl⟩
  | _=>rfl
 have hp:∀ v,pOp P Θ o.op s v→pOp P Θ o.op s' v:=fun v hv=>by
  have:=vOp_congr hev ho hk hv;unfold pOp;rw [← ho,← hk];exact this
 unfold gOp at h ⊢;split at h
 ·rename_i hg;exact hp v h
 ·rename_i j want hg;obtain ⟨c,v',h1,h2,h3⟩:=h;have hgs:gsl ops s' j=gsl ops s j:=by
   unfold gsl;split
   ·rename_i d hd;refine (he d ?_).symm;simp only [Oper.looksAt,List.mem_append];right;rw [hg];simp [hd]
   ·rfl
  exact ⟨c,v',by rw [hgs];exact h1,fun hb=>hp _ (h2 hb),h3⟩
def unl (listed:Array Bool):Nat→Nat
 | 0=>0
 | n+1=>unl listed n+(if listed.getD n true=false then 1 else 0)
theorem unl_set {listed:Array Bool} {i:Nat} (hi:listed.getD i true=false):∀ n,unl (listed.setIfInBounds i true) n+(if i < n then 1 else 0)=unl listed n
 | 0=>by simp [unl]
 | n+1=>by
  have ih:=unl_set hi n;have hlt:i < listed.size:=by
   rcases Nat.lt_or_ge i listed.size with h' | h'
   ·exact h'
   ·simp [Array.getElem?_eq_none h'] at hi
  simp only [unl];by_cases hn:n=i
  ·subst hn;rw [hi];simp only [Nat.lt_irrefl,if_false,Nat.add_zero] at ih;rw [ih];simp [hlt]
  ·rw [getD_set_ne true (Ne.symm hn)];by_cases hin:i < n
   ·rw [if_pos hin] at ih;rw [if_pos (show i < n+1 by omega)];omega
   ·rw [if_neg hin] at ih;rw [if_neg (show ¬ i < n+1 by omega)];omega
theorem unl_zero {listed:Array Bool}:∀ n,unl listed n=0→∀ i,i < n→listed.getD i true=true
 | 0,_,i,hi=>by omega
 | n+1,h,i,hi=>by
  simp only [unl] at h;by_cases hn:i=n
  ·subst hn;by_cases hl:listed.getD i true=true
   ·exact hl
   ·simp only [Bool.not_eq_true] at hl;rw [hl] at h;simp at h
  ·exact unl_zero n (by omega) i (by omega)
noncomputable def slL (sl:Nat→SV) (prs:List (Option Nat×SV)) (listed:Array Bool):Nat→SV:=fun u=>
 open Classical in if h:∃ v,∃ j,prs[j]?=some (some u,v)∧listed.getD j false=true then Classical.choose h else sl u
section
variable {sl:Nat→SV} {prs:List (Option Nat×SV)} {listed:Array Bool}
def Uniq (prs:List (Option Nat×SV)):Prop:=∀ (i j u:Nat) (v x:SV),prs[i]?=some (some u,v)→prs[j]?=some (some u,x)→i=j
theorem slL_hit (hu:Uniq prs) {u j:Nat} {v:SV} (h:prs[j]?=some (some u,v)) (hl:listed.getD j false=true):slL sl prs listed u=v:=by
 have hex:∃ v,∃ j,prs[j]?=some (some u,v)∧listed.getD j false=true:=⟨v,j,h,hl⟩;unfold slL;rw [dif_pos hex];obtain ⟨i,h1,h2⟩:=Classical.choose_spec hex;have:=hu i j u _ _ h1 h;subst this;rw [h1] at h;simp only [Option.some.injEq,Prod.mk.injEq,true_and] at h;exact h
theorem slL_miss {u:Nat} (h:∀ (j:Nat) (v:SV),prs[j]?=some (some u,v)→listed.getD j false=true→False):slL sl prs listed u=sl u:=by
 unfold slL;rw [dif_neg];rintro ⟨v,j,h1,h2⟩;exact h j v h1 h2
end
section
variable {P:Program} {Θ:Tab} {n k0:Nat} {Q:Exit→St→Prop}
theorem WP.drawn (hΘ:TabOk P Θ) (hm:P.follows .mixedOrders=true) {s:St} {id:Nat} {ops:Array Oper} (hd:(ops.toList.all fun o=>dstOk n o.dst)=true) (hflow:flowOk ops=true)
    (h:dOps P Θ ops (Q .normal) ops.toList s):WP P n k0 (.region id ops true) s Q:=by
  intro E a w e1 e2 hrel;refine wp_region_any hm ?_;obtain ⟨vs,hvl,hop,hfin⟩:=dOps_spec _ _ h;generalize hprs:(ops.toList.map (·.dst)).zip vs=prs at hop hfin;have hget:∀ (j:Nat) (o:Oper),ops[j]?=some o→∃ v,vs[j]?=some v∧prs[j]?=some (o.dst,v):=fun j o hj=>by
    have hlt:j < ops.size:=(Array.getElem?_eq_some_iff.1 hj).1;have hv:vs[j]?=some (vs[j]'(by rw [hvl];simpa using hlt)):=List.getElem?_eq_getElem _;refine ⟨_,hv,?_⟩;rw [← hprs,List.getElem?_zip_eq_some];refine ⟨?_,hv⟩;rw [List.getElem?_map];have:ops.toList[j]?=some o:=by simpa using hj
    rw [this];rfl
  have hback:∀ (j:Nat) (d:Option Nat) (v:SV),prs[j]?=some (d,v)→∃ o,ops[j]?=some o∧o.dst=d∧vs[j]?=some v:=fun j d v hj=>by
    rw [← hprs,List.getElem?_zip_eq_some,List.getElem?_map] at hj;obtain ⟨h1,h2⟩:=hj;obtain ⟨o,ho,rfl⟩:=Option.map_eq_some_iff.1 h1;exact ⟨o,by simpa using ho,rfl,h2⟩
  have huniq:Uniq prs:=fun i j u v x hi hj=>by
    obtain ⟨o,ho,hod,_⟩:=hback i _ v hi;obtain ⟨p,hp,hpd,_⟩:=hback j _ x hj;have:=(flow_spec hflow ho).2 j p hp;simp only [flowAt,hpd,Bool.and_eq_true,Bool.or_eq_true,beq_iff_eq] at this;rcases this.1 with h1 | h1
    · exact h1
    · simp [hod] at h1
  have hons:∀ {o:Oper} {e:Edge},e∈o.after→Region.binds .any e=true→e.on∈onsOf o:=fun {o e} he hb=>by
    simp only [onsOf,List.mem_map,List.mem_filter];exact ⟨e,⟨by simpa using he,hb⟩,rfl⟩
  have hons':∀ {o:Oper} {j:Nat},j∈onsOf o→∃ e∈o.after,Region.binds .any e=true∧e.on=j:=fun {o j} hj=>by
    simp only [onsOf,List.mem_map,List.mem_filter] at hj;obtain ⟨e,⟨h1,h2⟩,h3⟩:=hj;exact ⟨e,by simpa using h1,h2,h3⟩
  have hready:∀ (listed:Array Bool) (i:Nat) (o:Oper) (v:SV),(∀ (j:Nat) (p:Oper),ops[j]?=some p→listed.getD j false=true→∀ k∈onsOf p,listed.getD k false=true)→
      ops[i]?=some o→vs[i]?=some v→listed.getD i true=false→(∀ k∈onsOf o,listed.getD k false=true)→gOp P Θ ops o { sl:=slL s.sl prs listed,o:=s.o,nk:=s.nk } v:=by
    intro listed i o v hcl ho hv hi hon;refine gOp_congr (s:={ sl:=slAt s.sl (prs.take i),o:=s.o,nk:=s.nk }) (fun u hu=>?_) rfl rfl (hop i o v (by simpa using ho) hv);show slAt s.sl (prs.take i) u=slL s.sl prs listed u;by_cases hex:∃ (j:Nat) (x:SV),prs[j]?=some (some u,x)
    · obtain ⟨j,x,hj⟩:=hex;obtain ⟨p,hp,hpd,_⟩:=hback j _ x hj;have hfl:=(flow_spec hflow ho).2 j p hp;have hlook:(o.looksAt ops).contains u=true:=by simpa using hu
      simp only [flowAt,hpd,Bool.and_eq_true,Bool.or_eq_true,beq_iff_eq,hlook,Bool.not_true,Bool.false_eq_true,false_or,decide_eq_true_eq,List.contains_eq_mem] at hfl;rcases hfl.2 with ⟨h1,h2⟩ | ⟨h1,h2⟩
      · rw [slL_hit huniq hj (hon j h2)];refine slAt_hit _ _ j (by rw [List.getElem?_take,if_pos h1];exact hj) fun k y hk=>?_;rw [List.getElem?_take] at hk;split at hk
        · exact huniq k j u y x hk hj
        · cases hk
      · rw [slAt_miss,slL_miss]
        · intro k y hk hl;have:=huniq k j u y x hk hj;subst this;have:=hcl k p hp hl i h2;have hif:listed.getD i false=false:=by
            rcases Nat.lt_or_ge i listed.size with h' | h'
            · simp [h'] at hi ⊢;exact hi
            · simp [Array.getElem?_eq_none h'] at hi
          rw [hif] at this;cases this
        · intro y hy;obtain ⟨k,hk⟩:=List.getElem?_of_mem hy;rw [List.getElem?_take] at hk;split at hk
          · have:=huniq k j u y x hk hj;omega
          · cases hk
    · rw [slAt_miss,slL_miss]
      · exact fun k y hk _=>hex ⟨k,y,hk⟩
      · intro y hy;obtain ⟨k,hk⟩:=List.getElem?_of_mem (List.mem_of_mem_take hy);exact hex ⟨k,y,hk⟩
  have hall:∀ listed:Array Bool,(∀ i,i < ops.size→listed.getD i true=true)→slL s.sl prs listed=slAt s.sl prs∨ops.size > listed.size:=by
    intro listed hL;rcases Nat.lt_or_ge listed.size ops.size with h' | h'
    · exact .inr h'
    · left;funext u;by_cases hex:∃ (j:Nat) (x:SV),prs[j]?=some (some u,x)
      · obtain ⟨j,x,hj⟩:=hex;obtain ⟨p,hp,_,_⟩:=hback j _ x hj;have hlt:j < ops.size:=(Array.getElem?_eq_some_iff.1 hp).1;rw [slL_hit huniq hj,slAt_hit _ _ j hj fun k y hk=>huniq k j u y x hk hj];have:=hL j hlt;have hlt':j < listed.size:=by omega
        simp [hlt'] at this ⊢;exact this
      · rw [slAt_miss,slL_miss]
        · exact fun k y hk _=>hex ⟨k,y,hk⟩
        · intro y hy;obtain ⟨k,hk⟩:=List.getElem?_of_mem hy;exact hex ⟨k,y,hk⟩
  have main:∀ (fuel:Nat) (listed:Array Bool) (a:Act) (w:World),listed.size=ops.size→unl listed ops.size≤fuel→
      (∀ (j:Nat) (p:Oper),ops[j]?=some p→listed.getD j false=true→∀ k∈onsOf p,listed.getD k false=true)→
      Rel E { sl:=slL s.sl prs listed,o:=s.o,nk:=s.nk } a w→
      wpAny P .any ops (fun e a' w'=>∃ s',Rel E s' a' w'∧Q e s') fuel listed a w:=by
    intro fuel
    induction fuel with
    | zero=>
      intro listed a w hsz hun hcl hr;have hL:=unl_zero ops.size (by omega) (listed:=listed);refine ⟨?_,_,hr,?_⟩
      · rw [List.eq_nil_iff_forall_not_mem];intro i hi;rw [mem_ready] at hi;obtain ⟨h0,o,ho,_⟩:=hi;have:=hL i (Array.getElem?_eq_some_iff.1 ho).1;rw [this] at h0;cases h0
      · rcases hall listed hL with h1 | h1
        · rw [h1];exact hfin
        · omega
    | succ fuel ih=>
      intro listed a w hsz hun hcl hr;refine ⟨fun hnil=>?_,fun i hi=>?_⟩
      · have hL:∀ i,i < ops.size→listed.getD i true=true:=by
          intro i
          induction i using Nat.strongRecOn with
          | _ i ihi=>
            intro hlt;by_cases hl:listed.getD i true=true
            · exact hl
            · exfalso;simp only [Bool.not_eq_true] at hl;have hmem:i∈Region.ready .any ops listed:=by
                rw [mem_ready];refine ⟨hl,ops[i],by simp [hlt],fun e he hb=>?_⟩;have hlt2:=(flow_spec hflow (i:=i) (o:=ops[i]) (by simp [hlt])).1 e.on (hons he hb);have:=ihi e.on hlt2 (by omega);have hlt3:e.on < listed.size:=by omega
                simp [hlt3] at this ⊢;exact this
              rw [hnil] at hmem;cases hmem
        refine ⟨_,hr,?_⟩;rcases hall listed hL with h1 | h1
        · rw [h1];exact hfin
        · omega
      · have hi':=hi;rw [mem_ready] at hi';obtain ⟨h0,o,ho,hon⟩:=hi';obtain ⟨v,hv,hpv⟩:=hget i o ho;have hon':∀ k∈onsOf o,listed.getD k false=true:=fun k hk=>by
          obtain ⟨e,h1,h2,rfl⟩:=hons' hk;exact hon e h1 h2
        have hg:=hready listed i o v hcl ho hv h0 hon';have hdo:dstOk E.n o.dst=true:=by
          rw [e1];exact List.all_eq_true.1 hd o (by
            have:ops.toList[i]?=some o:=by simpa using ho
            exact List.mem_of_getElem? this)
        have hstep:=g_step (Q:=fun e a' w'=>∃ s',Rel E s' a' w'∧Q e s') (next:=wpAny P .any ops (fun e a' w'=>∃ s',Rel E s' a' w'∧Q e s') fuel (listed.setIfInBounds i true)) hΘ hr hdo hg (fun a' w' hr'=>by
          refine ih _ a' w' (by simpa using hsz) ?_ ?_ ?_
          · have:=unl_set h0 ops.size;rw [if_pos (Array.getElem?_eq_some_iff.1 ho).1] at this;omega
          · intro j p hj hl k hk;by_cases hji:j=i
            · subst hji;rw [ho] at hj;simp only [Option.some.injEq] at hj;subst hj;exact getD_set_true (hon' k hk)
            · rw [getD_set_ne false (Ne.symm hji)] at hl;exact getD_set_true (hcl j p hj hl k hk)
          · have:slL s.sl prs (listed.setIfInBounds i true)=pt (slL s.sl prs listed) o.dst v:=by
              have hli:(listed.setIfInBounds i true).getD i false=true:=by
                have:i < listed.size:=by rw [hsz];exact (Array.getElem?_eq_some_iff.1 ho).1
                simp [this]
              have hlf:∀ j,j≠i→(listed.setIfInBounds i true).getD j false=listed.getD j false:=fun j hj=>getD_set_ne false (Ne.symm hj);funext u;by_cases hex:∃ (j:Nat) (x:SV),prs[j]?=some (some u,x)
              · obtain ⟨j,x,hj⟩:=hex;by_cases hji:j=i
                · subst hji;rw [hj] at hpv;simp only [Option.some.injEq,Prod.mk.injEq] at hpv;obtain ⟨h1,h2⟩:=hpv;rw [slL_hit huniq hj hli,← h1,h2];exact (upd_same _ _ _).symm
                · have hne:o.dst≠some u:=fun e=>hji (huniq j i u x v hj (by rw [hpv,e]));have hp:pt (slL s.sl prs listed) o.dst v u=slL s.sl prs listed u:=by
                    cases hod:o.dst with
                    | none=>rfl
                    | some d=>exact upd_ne _ _ fun e=>hne (by rw [hod,e])
                  rw [hp];by_cases hl:listed.getD j false=true
                  · rw [slL_hit huniq hj hl,slL_hit huniq hj (by rw [hlf j hji];exact hl)]
                  · rw [slL_miss,slL_miss]
                    · intro k y hk hlk;have:=huniq k j u y x hk hj;subst this;exact hl hlk
                    · intro k y hk hlk;have:=huniq k j u y x hk hj;subst this;rw [hlf k hji] at hlk;exact hl hlk
              · have hne:o.dst≠some u:=fun e=>hex ⟨i,v,by rw [hpv,e]⟩;have hp:pt (slL s.sl prs listed) o.dst v u=slL s.sl prs listed u:=by
                  cases hod:o.dst with
                  | none=>rfl
                  | some d=>exact upd_ne _ _ fun e=>hne (by rw [hod,e])
                rw [hp,slL_miss,slL_miss]
                · exact fun k y hk _=>hex ⟨k,y,hk⟩
                · exact fun k y hk _=>hex ⟨k,y,hk⟩
            rw [this];exact hr')
        show wpOp P ops _ i _ a w;unfold wpOp;rw [ho];simp only;split
        · rename_i hw;rw [if_pos hw] at hstep;exact .inl hstep
        · rename_i hw;rw [if_neg hw] at hstep;exact hstep
  refine main ops.size _ a _ (by simp) ?_ ?_ ?_
  · have:∀ m,unl (Array.replicate ops.size false) m≤m:=by
      intro m
      induction m with
      | zero=>simp [unl]
      | succ m ih=>simp only [unl];split <;> omega
    exact this _
  · intro j p hj hl;simp only [Array.getD_eq_getD_getElem?,Array.getElem?_replicate] at hl;split at hl <;> simp at hl
  · obtain ⟨S,γ,hr⟩:=hrel;obtain ⟨m1,m2⟩:=hr.sto.more (w':={ w with drawn:=w.drawn+1 }) (fun _=>False) (fun _ h=>h.elim) rfl rfl rfl (Nat.le_refl _) (fun _ _=>rfl);have hsl:slL s.sl prs (Array.replicate ops.size false)=s.sl:=by
      funext u;refine slL_miss fun j v _ hl=>?_;simp only [Array.getD_eq_getD_getElem?,Array.getElem?_replicate] at hl;split at hl <;> simp at hl
    rw [hsl];exact ⟨_,γ,m1,hr.tr.trans m2,fun u=>(hr.sl u).tr hr.sto m2 (hr.slt u),hr.slt,hr.df,hr.nn⟩
end
def bodyOf (f:Func):Code:=f.body.getD .skip
def al (l:List (Nat×SV)):Nat→SV:=fun u=>match l.find? (fun p=>Nat.beq p.1 u) with
 | some p=>p.2
 | none=>.any
def Le (k0:Nat) (s s':St):Prop:=∀ E a w,E.nk=k0→Rel E s a w→Rel E s' a w
theorem Le.refl (k0:Nat) (s:St):Le k0 s s:=fun _ _ _ _ h=>h
theorem Le.trans {k0:Nat} {s t u:St} (h:Le k0 s t) (k:Le k0 t u):Le k0 s u:=fun E a w e hr=>k E a w e (h E a w e hr)
theorem Le.slots {k0 nk:Nat} {sl l:Nat→SV} {o:Nat→Option AO} (h:∀ u,l u=.any∨l u=sl u):Le k0 ⟨sl,o,nk⟩ ⟨l,o,nk⟩:=by
 rintro E a w e ⟨S,γ,hr⟩;refine ⟨S,γ,hr.sto,hr.tr,fun u=>?_,fun u=>?_,hr.df,hr.nn⟩
 ·rcases h u with h1 | h1
  ·show SR w S γ o (l u) _;rw [h1];exact .any _
  ·show SR w S γ o (l u) _;rw [h1];exact hr.sl u
 ·rcases h u with h1 | h1
  ·show (l u).lt nk;rw [h1];trivial
  ·show (l u).lt nk;rw [h1];exact hr.slt u
theorem Le.al {k0 nk:Nat} {sl:Nat→SV} {l:List (Nat×SV)} {o:Nat→Option AO} (h:∀ p∈l,sl p.1=p.2):Le k0 ⟨sl,o,nk⟩ ⟨Abs.al l,o,nk⟩:=by
 refine Le.slots fun u=>?_;unfold Abs.al;split
 ·rename_i p hp;right;have h1:=List.mem_of_find?_eq_some hp;have h2:=List.find?_some hp;have h3:p.1=u:=Nat.eq_of_beq_eq_true h2;rw [← h3,h p h1]
 ·exact .inl rfl
theorem Le.wk {s s':St} {τ:Nat→Nat} {k0:Nat} (h:Wk k0 τ s s'):Le k0 s s':=fun E a w e hr=>hr.wk (e ▸ h)
section
variable {P:Program} {Θ:Tab} {n k0:Nat} {Q:Exit→St→Prop}
theorem WP.le {c:Code} {s s':St} (h:Le k0 s s') (k:WP P n k0 c s' Q):WP P n k0 c s Q:=WP.of h k
theorem WP.loopL {s:St} {ι:Type} {c:Code} (I:ι→St) (A:ι→Prop) (μ:ι→Nat)
    (round:∀ i,A i→WP P n k0 c (I i) (Qthen (fun s'=>∃ j,A j∧μ j < μ i∧Le k0 s' (I j)) Q)) (i:ι) (hi:A i) (hs:Le k0 s (I i)):WP P n k0 (.loop c) s Q:=by
  refine WP.le hs ?_;refine WP.loop I A μ (fun i hA=>?_) i hi rfl;intro E a w h1 h2 h3;refine Go.wp_mono (round i hA E a w h1 h2 h3) ?_;rintro e a' w' ⟨s',hr,q⟩;cases e with
  | normal=>
    obtain ⟨j,hAj,hlt,hk⟩:=q;exact ⟨I j,hk E a' w' h2 hr,j,hAj,hlt,rfl⟩
  | _=>exact ⟨s',hr,q⟩
theorem WP.seqJ {s:St} (I:St) {x y:Code} (h:WP P n k0 x s (Qthen (fun s'=>Le k0 s' I) Q)) (k:WP P n k0 y I Q):WP P n k0 (.seq x y) s Q:=
 WP.seq fun K hK=>WP.mono h fun e s' hq=>by
  cases e with
  | normal=>exact hK s' (WP.le hq k)
  | _=>exact hq
theorem WP.reg (hΘ:TabOk P Θ) {s:St} {id:Nat} {l:List Oper} (hd:(l.all fun o=>dstOk n o.dst)=true) (h:vOps P Θ l.toArray (Q .normal) l s):WP P n k0 (.region id l.toArray false) s Q:=
 WP.region hΘ (by simpa using hd) (by simpa using h)
theorem WP.drw (hΘ:TabOk P Θ) (hm:P.follows .mixedOrders=true) {s:St} {id:Nat} {l:List Oper} (hd:(l.all fun o=>dstOk n o.dst)=true) (hf:flowOk l.toArray=true) (h:dOps P Θ l.toArray (Q .normal) l s):WP P n k0 (.region id l.toArray true) s Q:=
 WP.drawn hΘ hm (by simpa using hd) hf (by simpa using h)
end
def PSpec (P:Program) (f:FuncId) (args:List SV) (r:SV):Prop:=∀ (o:Nat→Option AO) (nk:Nat),Spec P f args o nk fun r' o' nk'=>r'=r∧o'=o∧nk'=nk
theorem Spec.pure {P:Program} {f:FuncId} {args:List SV} {o:Nat→Option AO} {nk:Nat} {r:SV} (hr:∀ m,r.lt m) (hid:r.ren id=r)
    (h:Spec P f args o nk fun r' o' nk'=>r'=r∧nk≤nk'∧∀ t,t < nk→o' t=o t):Spec P f args o nk fun r' o' nk'=>r'=r∧o'=o∧nk'=nk:=by
  intro w S γ vs h1 h2 h3 h4;refine (h w S γ vs h1 h2 h3 h4).mono ?_;rintro v w' ⟨r',o',nk',S',γ',⟨rfl,hnk,ho⟩,hs,ht,hsr,hl⟩;have hk:Wko nk id o' o nk:=by
    refine ⟨Nat.le_refl _,fun t x hx=>?_,fun t t' x x' _ _ e=>e,fun _ _ _ _=>rfl⟩;have hlt:=h1.o_lt t x hx;refine ⟨hlt,by rw [AO.ren_id];show o' t=some x;rw [ho t hlt,hx],?_⟩;cases x with
    | box cs=>exact (h1.box t cs hx).2
    | row e z xs=>trivial
    | raw ob=>trivial
  exact ⟨r',o,nk,S',γ' ∘ id,⟨rfl,rfl,rfl⟩,hk.sto hs,hk.tr ht,hsr.of_ren (fun t x hx=>(hk.o t x hx).2.1) r' hid,hr _⟩
theorem PSpec.of {P:Program} {f:FuncId} {n:Nat} {ts:List Nat} {c:Code} {args:List SV} {x:D} (hf:FnOk P f n ts c) (hn:args.length≤n)
    (h:∀ o nk,WP P n nk c ⟨slots args,o,nk⟩ (retQ ts fun r o' nk'=>r=.d x∧nk≤nk'∧∀ t,t < nk→o' t=o t)):PSpec P f args (.d x):=fun o nk=>
  Spec.pure (fun _=>trivial) rfl (Spec.of_body hf hn (h o nk))
theorem PSpec.of2 {P:Program} {f:FuncId} {n:Nat} {ts:List Nat} {c:Code} {args:List SV} {xs:List D} (hf:FnOk P f n ts c) (hn:args.length≤n)
    (h:∀ o nk,WP P n nk c ⟨slots args,o,nk⟩ (retQ ts fun r o' nk'=>r=.tup (xs.map .d)∧nk≤nk'∧∀ t,t < nk→o' t=o t)):PSpec P f args (.tup (xs.map .d)):=fun o nk=>by
  refine Spec.pure (fun m=>?_) ?_ (Spec.of_body hf hn (h o nk))
  · exact lts_of fun i c hc=>by
      rw [List.getElem?_map] at hc;obtain ⟨d,_,rfl⟩:=Option.map_eq_some_iff.1 hc;trivial
  · show SV.tup (SV.rens id (xs.map .d))=_;rw [SV.rens_id]
theorem cnd_true (v:SV):cnd true v=v:=by unfold cnd;rfl
section
variable {P:Program} {Θ:Tab} {ops:Array Oper} {K:St→Prop} {r:List Oper} {sl:Nat→SV} {o:Nat→Option AO} {nk d ty j:Nat} {op:Op} {pos:String} {af:Array Edge} {want c:Bool} {v:SV}
theorem u_step (h:vOp P Θ op ⟨sl,o,nk⟩ fun v o' nk'=>vOps P Θ ops K r ⟨upd sl d v,o',nk'⟩) :
 vOps P Θ ops K ({ dst:=some d,op:=op,type:=ty,pos:=pos,after:=af,guard:=none } :: r) ⟨sl,o,nk⟩:=h
theorem u_step0 (h:vOp P Θ op ⟨sl,o,nk⟩ fun v o' nk'=>vOps P Θ ops K r ⟨sl,o',nk'⟩) :
 vOps P Θ ops K ({ dst:=none,op:=op,type:=ty,pos:=pos,after:=af,guard:=none } :: r) ⟨sl,o,nk⟩:=h
theorem u_guard (hb:GC (gsl ops ⟨sl,o,nk⟩ j) want c) (h:c=true→vOp P Θ op ⟨sl,o,nk⟩ fun v' o' nk'=>v'=v∧o'=o∧nk'=nk) (k:vOps P Θ ops K r ⟨upd sl d (cnd c v),o,nk⟩) :
 vOps P Θ ops K ({ dst:=some d,op:=op,type:=ty,pos:=pos,after:=af,guard:=some (j,want) } :: r) ⟨sl,o,nk⟩:=⟨c,v,hb,h,k⟩
theorem d_step (h:vOp P Θ op ⟨sl,o,nk⟩ fun v' o' nk'=>v'=v∧o'=o∧nk'=nk) (k:dOps P Θ ops K r ⟨upd sl d v,o,nk⟩) :
 dOps P Θ ops K ({ dst:=some d,op:=op,type:=ty,pos:=pos,after:=af,guard:=none } :: r) ⟨sl,o,nk⟩:=⟨v,h,k⟩
theorem d_guard (hb:GC (gsl ops ⟨sl,o,nk⟩ j) want c) (h:c=true→vOp P Θ op ⟨sl,o,nk⟩ fun v' o' nk'=>v'=v∧o'=o∧nk'=nk) (k:dOps P Θ ops K r ⟨upd sl d (cnd c v),o,nk⟩) :
 dOps P Θ ops K ({ dst:=some d,op:=op,type:=ty,pos:=pos,after:=af,guard:=some (j,want) } :: r) ⟨sl,o,nk⟩:=⟨cnd c v,⟨c,v,hb,h,rfl⟩,k⟩
theorem u_nil {s:St} (h:K s):vOps P Θ ops K [] s:=h
theorem d_nil {s:St} (h:K s):dOps P Θ ops K [] s:=h
end
section
variable {P:Program} {Θ:Tab} {K:SV→(Nat→Option AO)→Nat→Prop} {sl:Nat→SV} {o:Nat→Option AO} {nk:Nat} {x y ix:Operand} {t e f:Nat} {a b q:D}
theorem o_move (hx:ev sl x=.d a) (h:K (.d a) o nk):vOp P Θ (.move x) ⟨sl,o,nk⟩ K:=by
 refine Or.inl ?_;show K (ev sl x) o nk;rw [hx];exact h
theorem o_assign (hx:ev sl x=.d a) (h:K (.d a) o nk):vOp P Θ (.assign x) ⟨sl,o,nk⟩ K:=by
 refine Or.inl ?_;show K (ev sl x) o nk;rw [hx];exact h
theorem o_moveV {v:SV} (hx:ev sl x=v) (h:K v o nk):vOp P Θ (.move x) ⟨sl,o,nk⟩ K:=by
 refine Or.inl ?_;show K (ev sl x) o nk;rw [hx];exact h
theorem o_assignV {v:SV} (hx:ev sl x=v) (h:K v o nk):vOp P Θ (.assign x) ⟨sl,o,nk⟩ K:=by
 refine Or.inl ?_;show K (ev sl x) o nk;rw [hx];exact h
theorem o_pick_and {c:Operand} {p q:Bool} (hc:ev sl c=.d (.bool p)) (hx:ev sl x=cnd p (.d (.bool q))) (hy:ev sl y=.d (.bool false)) (h:K (.d (.bool (p && q))) o nk):vOp P Θ (.pick c x y) ⟨sl,o,nk⟩ K:=by
 refine Or.inl ?_;refine ⟨p,hc,?_⟩;show K (if p=true then ev sl x else ev sl y) o nk;rw [hx,hy];cases p
 ·exact h
 ·rw [cnd_true];exact h
theorem o_pick_or {c:Operand} {p q:Bool} (hc:ev sl c=.d (.bool p)) (hx:ev sl x=.d (.bool true)) (hy:ev sl y=cnd (!p) (.d (.bool q))) (h:K (.d (.bool (p || q))) o nk):vOp P Θ (.pick c x y) ⟨sl,o,nk⟩ K:=by
 refine Or.inl ?_;refine ⟨p,hc,?_⟩;show K (if p=true then ev sl x else ev sl y) o nk;rw [hx,hy];cases p
 ·simp only [Bool.not_false,cnd_true];exact h
 ·exact h
theorem o_fa_loc {i j:TI} {fs:List (Nat×Nat)} {off ft k g:Nat} {cs:List SV} (hx:ev sl x=.loc k g) (hi:Θ t=some i) (hk:i.k=.struct fs) (hf:fs[f]?=some (off,ft)) (hj:Θ ft=some j) (hz:j.sz≠0) (ho:o k=some (.box cs)) (h:K (.loc k (g+off)) o nk) :
    vOp P Θ (.fieldAddr t x f) ⟨sl,o,nk⟩ K:=by
  refine Or.inl ?_;refine ⟨i,fs,off,ft,j,hi,hk,hf,hj,hz,?_⟩;show (match ev sl x with | .loc k g=>_ | .el x=>_ | .rel k q g=>_ | _=>False);rw [hx];exact ⟨⟨cs,ho⟩,h⟩
theorem o_fa_el {i j:TI} {fs:List (Nat×Nat)} {off ft:Nat} (hx:ev sl x=.el a) (hi:Θ t=some i) (hk:i.k=.struct fs) (hf:fs[f]?=some (off,ft)) (hj:Θ ft=some j) (hz:j.sz≠0) (hs:a.sub off j.sz j.k.agg=some b) (h:K (.el b) o nk) :
    vOp P Θ (.fieldAddr t x f) ⟨sl,o,nk⟩ K:=by
  refine Or.inl ?_;refine ⟨i,fs,off,ft,j,hi,hk,hf,hj,hz,?_⟩;show (match ev sl x with | .loc k g=>_ | .el x=>_ | .rel k q g=>_ | _=>False);rw [hx];exact ⟨b,hs,h⟩
theorem o_ld_loc {i:TI} {k g:Nat} {cs:List SV} {v:D} (hx:ev sl x=.loc k g) (hi:Θ t=some i) (ha:i.k.agg=false) (ho:o k=some (.box cs)) (hc:cs[g]?=some (.d v)) (h:K (.d v) o nk):vOp P Θ (.load t x) ⟨sl,o,nk⟩ K:=by
 refine Or.inl ?_;refine ⟨i,hi,?_⟩;show (match ev sl x with | .loc k f=>_ | .el x=>_ | _=>False);rw [hx];refine ⟨cs,ho,?_⟩;rw [if_neg (by rw [ha];simp)];exact ⟨_,hc,h⟩
theorem o_ld_locV {i:TI} {k g:Nat} {cs:List SV} {v:SV} (hx:ev sl x=.loc k g) (hi:Θ t=some i) (ha:i.k.agg=false) (ho:o k=some (.box cs)) (hc:cs[g]?=some v) (h:K v o nk):vOp P Θ (.load t x) ⟨sl,o,nk⟩ K:=by
 refine Or.inl ?_;refine ⟨i,hi,?_⟩;show (match ev sl x with | .loc k f=>_ | .el x=>_ | _=>False);rw [hx];refine ⟨cs,ho,?_⟩;rw [if_neg (by rw [ha];simp)];exact ⟨_,hc,h⟩
theorem o_ld_agg {i:TI} {k g:Nat} {cs:List SV} {ds:List D} (hx:ev sl x=.loc k g) (hi:Θ t=some i) (ha:i.k.agg=true) (ho:o k=some (.box cs)) (hc:allD ((cs.drop g).take i.sz)=some ds) (hl:ds.length=i.sz) (hlf:ds.all D.leaf=true) (h:K (.d (.agg ds)) o nk):vOp P Θ (.load t x) ⟨sl,o,nk⟩ K:=by
 refine Or.inl ?_;refine ⟨i,hi,?_⟩;show (match ev sl x with | .loc k f=>_ | .el x=>_ | _=>False);rw [hx];refine ⟨cs,ho,?_⟩;rw [if_pos ha];exact .inl ⟨ds,hc,hl,hlf,h⟩
theorem o_ld_el {i:TI} (hx:ev sl x=.el a) (hi:Θ t=some i) (h1:a.leaf=!i.k.agg) (h2:a.width=i.sz) (h:K (.d a) o nk):vOp P Θ (.load t x) ⟨sl,o,nk⟩ K:=by
 refine Or.inl ?_;refine ⟨i,hi,?_⟩;show (match ev sl x with | .loc k f=>_ | .el x=>_ | _=>False);rw [hx];exact ⟨h1,h2,h⟩
theorem o_box_agg {cs:List D} (hx:ev sl x=.d (.agg cs)) (h:K (.loc nk 0) (upd o nk (some (.box (cs.map .d)))) (nk+1)):vOp P Θ (.box e x) ⟨sl,o,nk⟩ K:=by
 refine Or.inl ?_;refine ⟨cs.map .d,?_,h⟩;show (ev sl x).cells o=_;rw [hx];rfl
theorem o_box_leaf (hx:ev sl x=.d a) (hl:a.leaf=true) (h:K (.loc nk 0) (upd o nk (some (.box [.d a]))) (nk+1)):vOp P Θ (.box e x) ⟨sl,o,nk⟩ K:=by
 refine Or.inl ?_;refine ⟨[.d a],?_,h⟩;show (ev sl x).cells o=_;rw [hx];cases a <;> simp [D.leaf] at hl <;> rfl
theorem o_alloc {i:TI} {l:List D} (hi:Θ e=some i) (hz:i.z=some l) (h:K (.loc nk 0) (upd o nk (some (.box (l.map .d)))) (nk+1)):vOp P Θ (.alloc e) ⟨sl,o,nk⟩ K:=.inl ⟨i,l,hi,hz,h⟩
theorem o_st_leaf {i:TI} {k g:Nat} {cs:List SV} (hx:ev sl x=.loc k g) (hy:ev sl y=.d a) (hl:a.leaf=true) (hi:Θ t=some i) (hs:i.sz=1) (ho:o k=some (.box cs)) (hle:g < cs.length) (h:K .any (upd o k (some (.box (cs.take g++[.d a]++cs.drop (g+1))))) nk):vOp P Θ (.store t x y) ⟨sl,o,nk⟩ K:=by
 refine Or.inl ?_;refine ⟨i,[.d a],hi,?_,hs.symm,?_⟩
 ·show (ev sl y).cells o=_;rw [hy];cases a <;> simp [D.leaf] at hl <;> rfl
 ·show (match ev sl x with | .loc k f=>_ | _=>False);rw [hx];exact ⟨cs,ho,hle,h⟩
theorem o_st_agg {i:TI} {k g:Nat} {cs:List SV} {ds:List D} (hx:ev sl x=.loc k g) (hy:ev sl y=.d (.agg ds)) (hi:Θ t=some i) (hs:ds.length=i.sz) (ho:o k=some (.box cs)) (hle:g+ds.length≤cs.length) (h:K .any (upd o k (some (.box (cs.take g++ds.map .d++cs.drop (g+ds.length))))) nk):vOp P Θ (.store t x y) ⟨sl,o,nk⟩ K:=by
 refine Or.inl ?_;refine ⟨i,ds.map .d,hi,?_,by simpa using hs,?_⟩
 ·show (ev sl y).cells o=_;rw [hy];rfl
 ·show (match ev sl x with | .loc k f=>_ | _=>False);rw [hx];exact ⟨cs,ho,by simpa using hle,by simpa using h⟩
theorem o_ia_sl {i j:TI} {z:Nat} {xs:List D} {k:IntKind} {m:Int} (hx:ev sl x=.d (.sl z xs)) (hy:ev sl ix=.d (.int k m)) (hi:Θ t=some i) (hk:i.k=.slice e) (hj:Θ e=some j) (hz:z=j.sz) (h0:0≤m) (ha:xs[m.toNat]?=some a) (h:K (.el a) o nk):vOp P Θ (.indexAddr t x ix) ⟨sl,o,nk⟩ K:=by
 refine Or.inl ?_;refine ⟨i,e,j,k,m,hi,.inl hk,hj,hy,h0,?_⟩;show (match ev sl x with | .d (.sl z xs)=>_ | .row q=>_ | .loc q f=>_ | _=>False);rw [hx];exact ⟨hk,hz,a,ha,h⟩
theorem o_ix {i:TI} {l:List UInt8} {k:IntKind} {m:Int} (hx:ev sl x=.d (.str l)) (hy:ev sl ix=.d (.int k m)) (hi:Θ t=some i) (hk:i.k=.str) (h0:0≤m) (hlt:m.toNat < l.length) (h:K (.d (.int .u8 (bAt l m.toNat))) o nk):vOp P Θ (.index t x ix) ⟨sl,o,nk⟩ K:=
 .inl ⟨i,l,k,m,hi,hk,hx,hy,h0,hlt,h⟩
theorem o_len_sl {i:TI} {z:Nat} {xs:List D} (hx:ev sl x=.d (.sl z xs)) (hi:Θ t=some i) (hk:i.k=.slice e) (h:K (.d (.int .i64 xs.length)) o nk):vOp P Θ (.call { callee:=.builtin .len,args:=#[x],argTypes:=#[t] }) ⟨sl,o,nk⟩ K:=by
 refine Or.inl ?_;show leOp Θ o #[t] (ev sl x) (fun v=>K v o nk);rw [hx];exact ⟨t,i,rfl,hi,⟨e,hk⟩,_,rfl,h⟩
theorem o_len_row {i:TI} {q e' z:Nat} {xs:List D} (hx:ev sl x=.row q) (hi:Θ t=some i) (hk:i.k=.slice e) (ho:o q=some (.row e' z xs)) (h:K (.d (.int .i64 xs.length)) o nk):vOp P Θ (.call { callee:=.builtin .len,args:=#[x],argTypes:=#[t] }) ⟨sl,o,nk⟩ K:=by
 refine Or.inl ?_;show leOp Θ o #[t] (ev sl x) (fun v=>K v o nk);rw [hx];exact ⟨t,i,rfl,hi,⟨e,hk⟩,_,by simp [lenD,ho],h⟩
theorem o_len_str {i:TI} {l:List UInt8} (hx:ev sl x=.d (.str l)) (hi:Θ t=some i) (hk:i.k=.str) (h:K (.d (.int .i64 l.length)) o nk):vOp P Θ (.call { callee:=.builtin .len,args:=#[x],argTypes:=#[t] }) ⟨sl,o,nk⟩ K:=by
 refine Or.inl ?_;show leOp Θ o #[t] (ev sl x) (fun v=>K v o nk);rw [hx];exact ⟨t,i,rfl,hi,hk,_,rfl,h⟩
theorem o_mm {ts:Array Nat} {bi:Builtin} {r:D} (hb:bi=.max∨bi=.min) (h1:mmD (bi == .max) (ev sl x) (ev sl y)=some r) (h:K (.d r) o nk):vOp P Θ (.call { callee:=.builtin bi,args:=#[x,y],argTypes:=ts }) ⟨sl,o,nk⟩ K:=by
 refine Or.inl ?_;rcases hb with rfl | rfl <;> exact ⟨r,h1,h⟩
theorem o_bin_int {bo:BinOp} {u:Nat} {k:IntKind} {m m':Int} {r:D} (hx:ev sl x=.d (.int k m)) (hy:ev sl y=.d (.int k m')) (hb:bo≠.shl∧bo≠.shr) (hr:intBin bo k m m'=some r) (h:K (.d r) o nk):vOp P Θ (.binOp bo t x y u) ⟨sl,o,nk⟩ K:=by
 refine Or.inl ?_;show bnOp Θ o bo t (ev sl x) (ev sl y) (fun v=>K v o nk);rw [hx,hy];unfold bnOp;simp only;split
 ·exact (hb.1 rfl).elim
 ·exact (hb.2 rfl).elim
 ·exact ⟨trivial,r,hr,h⟩
theorem o_bin_sh {bo:BinOp} {u:Nat} {k k':IntKind} {m m':Int} {r:D} (hx:ev sl x=.d (.int k m)) (hy:ev sl y=.d (.int k' m')) (hr:shBin bo k m m'=some r) (h:K (.d r) o nk):vOp P Θ (.binOp bo t x y u) ⟨sl,o,nk⟩ K:=by
 refine Or.inl ?_;show bnOp Θ o bo t (ev sl x) (ev sl y) (fun v=>K v o nk);rw [hx,hy];cases bo <;> simp [shBin] at hr
 all_goals exact ⟨r,by simp [shBin,hr],h⟩
theorem o_bin_str {bo:BinOp} {u:Nat} {l l':List UInt8} {r:D} (hx:ev sl x=.d (.str l)) (hy:ev sl y=.d (.str l')) (hr:strBin bo l l'=some r) (h:K (.d r) o nk):vOp P Θ (.binOp bo t x y u) ⟨sl,o,nk⟩ K:=by
 refine Or.inl ?_;show bnOp Θ o bo t (ev sl x) (ev sl y) (fun v=>K v o nk);rw [hx,hy];exact ⟨r,hr,h⟩
theorem o_not {p:Bool} (hx:ev sl x=.d (.bool p)) (h:K (.d (.bool (!p))) o nk):vOp P Θ (.unOp .not t x) ⟨sl,o,nk⟩ K:=by
 refine Or.inl ?_;refine ⟨.bool (!p),?_,h⟩;show unOpD .not (ev sl x)=_;rw [hx];rfl
theorem o_cv_int {i j:TI} {src dst:Nat} {k k':IntKind} {m:Int} (hx:ev sl x=.d (.int k m)) (hi:Θ src=some i) (hj:Θ dst=some j) (hk:j.k=.int k') (h:K (.d (.int k' (k'.wrap m))) o nk):vOp P Θ (.convert src dst x) ⟨sl,o,nk⟩ K:=by
 refine Or.inl ?_;show coOp Θ o src dst (ev sl x) (fun v=>K v o nk);rw [hx];refine ⟨i,j,hi,hj,?_⟩;simp only [hk];exact h
theorem o_mf {f:FuncId} {fs cs:Array Operand} {us vs:List SV} (h1:fs.toList.map (ev sl)=us) (h2:cs.toList.map (ev sl)=vs) (h:K (.clo f us vs) o nk):vOp P Θ (.makeFunc (.func f) fs cs) ⟨sl,o,nk⟩ K:=by
 refine Or.inl ?_;subst h1;subst h2;exact h
theorem o_sl_str {i:TI} {l:List UInt8} {lo hi:Option Operand} {m p:Nat} (hx:ev sl x=.d (.str l)) (hi':Θ t=some i) (hk:i.k=.str) (hh:bndO l.length l.length (hi.map (ev sl))=some m) (hl:bndO m 0 (lo.map (ev sl))=some p) (h:K (.d (.str ((l.take m).drop p))) o nk):vOp P Θ (.slice t x lo hi none) ⟨sl,o,nk⟩ K:=by
 refine Or.inl ?_;show slOp Θ o nk t (ev sl x) _ _ _ _;rw [hx];exact ⟨⟨i,hi',hk⟩,rfl,m,p,hh,hl,h⟩
theorem o_sl_sl {i j:TI} {z:Nat} {xs:List D} {lo hi:Option Operand} {m p:Nat} (hx:ev sl x=.d (.sl z xs)) (hi':Θ t=some i) (hk:i.k=.slice e) (hj:Θ e=some j) (hz:j.sz=z) (hh:bndO xs.length xs.length (hi.map (ev sl))=some m) (hl:bndO m 0 (lo.map (ev sl))=some p) (h:K (.d (.sl z ((xs.take m).drop p))) o nk):vOp P Θ (.slice t x lo hi none) ⟨sl,o,nk⟩ K:=by
 refine Or.inl ?_;show slOp Θ o nk t (ev sl x) _ _ _ _;rw [hx];exact ⟨⟨i,e,j,hi',hk,hj,hz⟩,.inl rfl,xs.length,m,p,rfl,hh,hl,h⟩
theorem o_bs {n:Nat} {i j:TI} {l xs:List D} {ps:Array (Nat×Operand)} (hp:partsL j.sz 0 (ps.toList.map fun p=>(p.1,ev sl p.2))=some xs) (hi:Θ t=some i) (hk:i.k=.slice e) (hj:Θ e=some j) (hz:j.z=some l) (hl:l.length=j.sz) (hpos:0 < j.sz) (hn:xs.length=n) (hs:n * j.sz≤16777216) (hn0:n≠0) (h:K (.d (.sl j.sz xs)) o nk):vOp P Θ (.buildSlice t n ps) ⟨sl,o,nk⟩ K:=
 .inl ⟨i,e,j,l,xs,hi,hk,hj,hz,hl,hpos,hp,hn,hs,by rw [if_neg hn0];exact .inl h⟩
theorem o_bs0 {i j:TI} {l:List D} (hi:Θ t=some i) (hk:i.k=.slice e) (hj:Θ e=some j) (hz:j.z=some l) (hl:l.length=j.sz) (hpos:0 < j.sz) (h:K (.row nk) (upd o nk (some (.row e j.sz []))) (nk+1)):vOp P Θ (.buildSlice t 0 #[]) ⟨sl,o,nk⟩ K:=
 .inl ⟨i,e,j,l,[],hi,hk,hj,hz,hl,hpos,rfl,rfl,by omega,h⟩
theorem o_bu {i:TI} {fs:List (Nat×Nat)} {l ds:List D} {ps:Array (Nat×Operand)} (hfl:fillL (placeOf Θ fs) l (ps.toList.map fun p=>(p.1,ev sl p.2))=some ds) (hi:Θ t=some i) (hk:i.k=.struct fs) (hz:i.z=some l) (h:K (.d (.agg ds)) o nk):vOp P Θ (.build t ps) ⟨sl,o,nk⟩ K:=
 .inl ⟨i,fs,l,ds,hi,hk,hz,hfl,h⟩
theorem o_ap {i j:TI} {l xs ys:List D} {q:Option Nat} (hi:Θ t=some i) (hk:i.k=.slice e) (hj:Θ e=some j) (hz:j.z=some l) (hl:l.length=j.sz) (hpos:0 < j.sz) (hd:dstOf o e j.sz (ev sl x)=some (q,xs)) (hns:∀ b,ev sl y≠.d (.str b)) (hs:srcOf o j.sz (ev sl y)=some ys)
    (h63:xs.length+ys.length≤9223372036854775807) (hby:(xs.length+ys.length) * j.bys≤140737488355328) (h:K (.row nk) (upd (killo o q) nk (some (.row e j.sz (xs++ys)))) (nk+1)):vOp P Θ (.call { callee:=.builtin .append,args:=#[x,y],argTypes:=#[t,t] }) ⟨sl,o,nk⟩ K:=by
  refine Or.inl ?_;refine ⟨t,t,i,e,j,l,q,xs,ys,rfl,hi,hk,hj,hz,hl,hpos,hd,?_,h63,hby,h⟩;split
  · rename_i heq;exact (hns _ heq).elim
  · exact ⟨rfl,hs⟩
theorem o_lookup {kt:Nat} {i j je:TI} {q:Nat} {ks:List (List UInt8)} {k:List UInt8} {m:Operand} (hm:ev sl m=.raw q) (hx:ev sl x=.d (.str k)) (hi:Θ t=some i) (hk:i.k=.map kt e) (hj:Θ kt=some j) (hjk:j.k=.str) (he:Θ e=some je) (hz:je.z=some [.bool false]) (hb:je.k=.bool) (hq:o q=some (.raw (setOb ks))) (h:K (.d (.bool (decide (k∈ks)))) o nk):vOp P Θ (.lookup t m x false) ⟨sl,o,nk⟩ K:=
 .inl ⟨rfl,kt,e,i,j,je,q,ks,k,hi,hk,hj,hjk,he,hz,hb,hm,hq,hx,h⟩
theorem o_ext {q:Nat} {xs:List SV} {c:SV} (hx:ev sl x=.tup xs) (hq:xs[q]?=some c) (h:K c o nk):vOp P Θ (.extract x q) ⟨sl,o,nk⟩ K:=.inl ⟨xs,c,hx,hq,h⟩
theorem o_call {g:FuncId} {asx:Array Operand} {ts:Array Nat} {us:List SV} {Q:SV→(Nat→Option AO)→Nat→Prop} (hs:Spec P g us o nk Q) (ha:asx.toList.map (ev sl)=us) (h:∀ r o' nk',Q r o' nk'→K r o' nk'):vOp P Θ (.call { callee:=.value (.func g),args:=asx,argTypes:=ts }) ⟨sl,o,nk⟩ K:=by
 refine Or.inl ?_;subst ha;refine ⟨g,[],[],rfl,?_⟩;rw [List.nil_append,List.append_nil];exact hs.mono h
theorem o_pcall {g:FuncId} {asx:Array Operand} {ts:Array Nat} {us:List SV} {r:SV} (hs:PSpec P g us r) (ha:asx.toList.map (ev sl)=us) (h:K r o nk):vOp P Θ (.call { callee:=.value (.func g),args:=asx,argTypes:=ts }) ⟨sl,o,nk⟩ K:=
 o_call (hs o nk) ha (by rintro r' o' nk' ⟨rfl,rfl,rfl⟩;exact h)
end
theorem wrap_i64 {m:Int} (h1:-9223372036854775808≤m) (h2:m≤9223372036854775807):IntKind.i64.wrap m=m:=by
 rw [IntKind.wrap_i64];omega
section
variable {P:Program} {Θ:Tab} {K:SV→(Nat→Option AO)→Nat→Prop} {sl:Nat→SV} {o:Nat→Option AO} {nk:Nat} {x y ix:Operand} {t e f:Nat} {a b:D}
theorem g_box {cs:List D} (hx:ev sl x=.d (.agg cs)) (h:∀ o1,o1 nk=some (.box (cs.map .d))→(∀ t,t≠nk→o1 t=o t)→K (.loc nk 0) o1 (nk+1)):vOp P Θ (.box e x) ⟨sl,o,nk⟩ K:=
 o_box_agg hx (h _ (upd_same _ _ _) fun _ ht=>upd_ne _ _ ht)
theorem g_box1 (hx:ev sl x=.d a) (hl:a.leaf=true) (h:∀ o1,o1 nk=some (.box [.d a])→(∀ t,t≠nk→o1 t=o t)→K (.loc nk 0) o1 (nk+1)):vOp P Θ (.box e x) ⟨sl,o,nk⟩ K:=
 o_box_leaf hx hl (h _ (upd_same _ _ _) fun _ ht=>upd_ne _ _ ht)
theorem g_alloc {i:TI} {l:List D} (hi:Θ e=some i) (hz:i.z=some l) (h:∀ o1,o1 nk=some (.box (l.map .d))→(∀ t,t≠nk→o1 t=o t)→K (.loc nk 0) o1 (nk+1)):vOp P Θ (.alloc e) ⟨sl,o,nk⟩ K:=
 o_alloc hi hz (h _ (upd_same _ _ _) fun _ ht=>upd_ne _ _ ht)
theorem g_st {i:TI} {k g:Nat} {cs:List SV} (hx:ev sl x=.loc k g) (hy:ev sl y=.d a) (hl:a.leaf=true) (hi:Θ t=some i) (hs:i.sz=1) (ho:o k=some (.box cs)) (hle:g < cs.length) (h:∀ o1,o1 k=some (.box (cs.take g++[.d a]++cs.drop (g+1)))→(∀ t,t≠k→o1 t=o t)→K .any o1 nk):vOp P Θ (.store t x y) ⟨sl,o,nk⟩ K:=
 o_st_leaf hx hy hl hi hs ho hle (h _ (upd_same _ _ _) fun _ ht=>upd_ne _ _ ht)
theorem g_sta {i:TI} {k g:Nat} {cs:List SV} {ds:List D} (hx:ev sl x=.loc k g) (hy:ev sl y=.d (.agg ds)) (hi:Θ t=some i) (hs:ds.length=i.sz) (ho:o k=some (.box cs)) (hle:g+ds.length≤cs.length) (h:∀ o1,o1 k=some (.box (cs.take g++ds.map .d++cs.drop (g+ds.length)))→(∀ t,t≠k→o1 t=o t)→K .any o1 nk):vOp P Θ (.store t x y) ⟨sl,o,nk⟩ K:=
 o_st_agg hx hy hi hs ho hle (h _ (upd_same _ _ _) fun _ ht=>upd_ne _ _ ht)
theorem g_bs0 {i j:TI} {l:List D} (hi:Θ t=some i) (hk:i.k=.slice e) (hj:Θ e=some j) (hz:j.z=some l) (hl:l.length=j.sz) (hpos:0 < j.sz) (h:∀ o1,o1 nk=some (.row e j.sz [])→(∀ t,t≠nk→o1 t=o t)→K (.row nk) o1 (nk+1)):vOp P Θ (.buildSlice t 0 #[]) ⟨sl,o,nk⟩ K:=
 o_bs0 hi hk hj hz hl hpos (h _ (upd_same _ _ _) fun _ ht=>upd_ne _ _ ht)
theorem g_range {i:TI} {l:List UInt8} (hx:ev sl x=.d (.str l)) (hi:Θ t=some i) (hk:i.k=.str) (h:∀ o1,o1 nk=some (.raw (itOb l 0))→(∀ t,t≠nk→o1 t=o t)→K (.raw nk) o1 (nk+1)):vOp P Θ (.range t x) ⟨sl,o,nk⟩ K:=
 .inl ⟨i,l,hi,hk,hx,h _ (upd_same _ _ _) fun _ ht=>upd_ne _ _ ht⟩
theorem g_next {l:List UInt8} {q pos:Nat} (hx:ev sl x=.raw q) (hq:o q=some (.raw (itOb l pos)))
    (h1:pos < l.length→∀ o1,o1 q=some (.raw (itOb l (pos+(Utf8.decode ⟨l.toArray⟩ pos).2)))→(∀ t,t≠q→o1 t=o t)→K (.tup [.d (.bool true),.d (.int .i64 pos),.d (.int .i32 (Utf8.decode ⟨l.toArray⟩ pos).1)]) o1 nk)
    (h2:¬ pos < l.length→K (.tup [.d (.bool false)]) o nk):vOp P Θ (.next x true) ⟨sl,o,nk⟩ K:=by
  refine Or.inl ?_;refine ⟨rfl,q,l,pos,hx,hq,?_⟩;split
  · rename_i hp;exact h1 hp _ (upd_same _ _ _) fun _ ht=>upd_ne _ _ ht
  · rename_i hp;exact h2 hp
theorem g_mm (h:∀ o1,o1 nk=some (.raw (setOb []))→(∀ t,t≠nk→o1 t=o t)→K (.raw nk) o1 (nk+1)):vOp P Θ (.makeMap t none) ⟨sl,o,nk⟩ K:=
 .inl ⟨rfl,h _ (upd_same _ _ _) fun _ ht=>upd_ne _ _ ht⟩
theorem g_mu {kt:Nat} {i j:TI} {q:Nat} {ks:List (List UInt8)} {k:List UInt8} {m:Operand} (hm:ev sl m=.raw q) (hx:ev sl x=.d (.str k)) (hy:ev sl y=.d (.bool true)) (hi:Θ t=some i) (hk:i.k=.map kt e) (hj:Θ kt=some j) (hjk:j.k=.str) (hq:o q=some (.raw (setOb ks))) (hin:k ∉ ks)
    (h:∀ o1,o1 q=some (.raw (setOb (ks++[k])))→(∀ t,t≠q→o1 t=o t)→K .any o1 nk):vOp P Θ (.mapUpdate t m x y) ⟨sl,o,nk⟩ K:=
  .inl ⟨kt,e,i,j,q,ks,k,hi,hk,hj,hjk,hm,hq,hx,hy,hin,h _ (upd_same _ _ _) fun _ ht=>upd_ne _ _ ht⟩
theorem sl_nstr {z:Nat} {ys:List D}:∀ b,(SV.d (.sl z ys))≠.d (.str b):=by intro b h;cases h
theorem g_ap {i j:TI} {l xs ys:List D} {q z:Nat} (hx:ev sl x=.row q) (hy:ev sl y=.d (.sl z ys)) (hi:Θ t=some i) (hk:i.k=.slice e) (hj:Θ e=some j) (hz:j.z=some l) (hl:l.length=j.sz) (hpos:0 < j.sz) (hzz:z=j.sz) (ho:o q=some (.row e j.sz xs))
    (h63:xs.length+ys.length≤9223372036854775807) (hby:(xs.length+ys.length) * j.bys≤140737488355328) (h:∀ o1,o1 nk=some (.row e j.sz (xs++ys))→(∀ t,t≠nk→t≠q→o1 t=o t)→K (.row nk) o1 (nk+1)):vOp P Θ (.call { callee:=.builtin .append,args:=#[x,y],argTypes:=#[t,t] }) ⟨sl,o,nk⟩ K:=by
  refine o_ap (q:=some q) hi hk hj hz hl hpos (by rw [hx];simp [dstOf,ho]) (by rw [hy];exact sl_nstr) (by rw [hy];simp [srcOf,hzz]) h63 hby (h _ (upd_same _ _ _) fun u h1 h2=>?_);rw [upd_ne _ _ h1];exact upd_ne _ _ h2
theorem g_apD {i j:TI} {l xs ys:List D} {q:Option Nat} {z:Nat} (hd:dstOf o e j.sz (ev sl x)=some (q,xs)) (hy:ev sl y=.d (.sl z ys)) (hi:Θ t=some i) (hk:i.k=.slice e) (hj:Θ e=some j) (hz:j.z=some l) (hl:l.length=j.sz) (hpos:0 < j.sz) (hzz:z=j.sz)
    (h63:xs.length+ys.length≤9223372036854775807) (hby:(xs.length+ys.length) * j.bys≤140737488355328) (h:∀ o1,o1 nk=some (.row e j.sz (xs++ys))→(∀ t,t≠nk→some t≠q→o1 t=o t)→K (.row nk) o1 (nk+1)):vOp P Θ (.call { callee:=.builtin .append,args:=#[x,y],argTypes:=#[t,t] }) ⟨sl,o,nk⟩ K:=by
  refine o_ap (q:=q) hi hk hj hz hl hpos hd (by rw [hy];exact sl_nstr) (by rw [hy];simp [srcOf,hzz]) h63 hby (h _ (upd_same _ _ _) fun u h1 h2=>?_);rw [upd_ne _ _ h1];cases q with
  | none=>rfl
  | some v=>exact upd_ne _ _ fun e=>h2 (by rw [e])
theorem dst_row {e z q:Nat} {xs:List D} (h:o q=some (.row e z xs)):dstOf o e z (.row q)=some (some q,xs):=by simp [dstOf,h]
end
mutual
def D.le:D→D→Prop
 | .nil,.nil=>True
 | .nil,.sl _ ys=>ys=[]
 | .sl z xs,.sl z' ys=>z=z'∧D.les xs ys
 | .agg xs,.agg ys=>D.les xs ys
 | .int k n,.int k' n'=>k=k'∧n=n'
 | .bool b,.bool b'=>b=b'
 | .str s,.str s'=>s=s'
 | .nilp,.nilp=>True
 | .nilk k,.nilk k'=>k=k'
 | .v k,.v k'=>k=k'
 | .seg k,.seg k'=>k=k'
 | _,_=>False
def D.les:List D→List D→Prop
 | [],[]=>True
 | x :: xs,y :: ys=>D.le x y∧D.les xs ys
 | _,_=>False
end
mutual
theorem D.le_refl:∀ x:D,D.le x x
 | .nil=>by simp [D.le]
 | .sl z xs=>by simp [D.le,D.les_refl xs]
 | .agg xs=>by simp [D.le,D.les_refl xs]
 | .int k n=>by simp [D.le]
 | .bool b=>by simp [D.le]
 | .str s=>by simp [D.le]
 | .nilp=>by simp [D.le]
 | .nilk k=>by simp [D.le]
 | .v k=>by simp [D.le]
 | .seg k=>by simp [D.le]
theorem D.les_refl:∀ xs:List D,D.les xs xs
 | []=>by simp [D.les]
 | x :: xs=>by simp [D.les,D.le_refl x,D.les_refl xs]
end
theorem D.les_length:∀ {xs ys:List D},D.les xs ys→xs.length=ys.length
 | [],[],_=>rfl
 | x :: xs,y :: ys,h=>by simp only [D.les] at h;simp [D.les_length h.2]
 | [],y :: ys,h=>by simp [D.les] at h
 | x :: xs,[],h=>by simp [D.les] at h
theorem D.les_get:∀ {xs ys:List D},D.les xs ys→∀ (i:Nat) (y:D),ys[i]?=some y→∃ x,xs[i]?=some x∧D.le x y
 | [],[],_,i,y,h=>by simp at h
 | x :: xs,y0 :: ys,h,0,y,hy=>by
  simp only [D.les] at h;simp only [List.getElem?_cons_zero,Option.some.injEq] at hy;subst hy;exact ⟨x,rfl,h.1⟩
 | x :: xs,y0 :: ys,h,i+1,y,hy=>by
  simp only [D.les] at h;exact D.les_get h.2 i y (by simpa using hy)
 | [],y :: ys,h,_,_,_=>by simp [D.les] at h
 | x :: xs,[],h,_,_,_=>by simp [D.les] at h
theorem D.le_leaf {x y:D} (h:D.le x y):x.leaf=y.leaf:=by
 cases x <;> cases y <;> simp_all [D.le,D.leaf]
theorem D.les_leaf:∀ {xs ys:List D},D.les xs ys→xs.all D.leaf=true→ys.all D.leaf=true
 | [],[],_,_=>rfl
 | x :: xs,y :: ys,h,hl=>by
  simp only [D.les] at h;simp only [List.all_cons,Bool.and_eq_true] at hl ⊢;exact ⟨by rw [← D.le_leaf h.1];exact hl.1,D.les_leaf h.2 hl.2⟩
 | [],y :: ys,h,_=>by simp [D.les] at h
 | x :: xs,[],h,_=>by simp [D.les] at h
theorem Rd.le {w:World} {S:Nat→Prop} {x:D} {v:Value} (h:Rd w S x v):∀ {y:D},D.le x y→Rd w S y v:=by
 induction h with
 | int k n=>intro y hy;cases y <;> simp [D.le] at hy;obtain ⟨rfl,rfl⟩:=hy;exact .int _ _
 | bool b=>intro y hy;cases y <;> simp [D.le] at hy;subst hy;exact .bool _
 | str s hm=>intro y hy;cases y <;> simp [D.le] at hy;subst hy;exact .str _ hm
 | nilp=>intro y hy;cases y <;> simp [D.le] at hy;exact .nilp
 | nilk k=>intro y hy;cases y <;> simp [D.le] at hy;subst hy;exact .nilk _
 | nil=>
  intro y hy;cases y <;> simp [D.le] at hy
  ·subst hy;exact .emp _ _ _ (by omega)
  ·exact .nil
 | emp z A c hm=>
  intro y hy;cases y <;> simp [D.le] at hy
  obtain ⟨rfl,h2⟩:=hy;have:=D.les_length h2;have:_=([]:List D):=List.eq_nil_of_length_eq_zero (by simpa using this.symm);subst this;exact .emp _ _ _ hm
 | sl z xs a c vs hl hm hS hv hr hz hc ih=>
  intro y hy;cases y <;> simp [D.le] at hy
  rename_i z' ys;obtain ⟨rfl,h2⟩:=hy;have hlen:=D.les_length h2;rw [hlen];exact .sl _ ys a c vs (by omega) hm hS (by omega) (fun i y u h3 h4=>by
   obtain ⟨x,h5,h6⟩:=D.les_get h2 i y h3;exact ih i x u h5 h4 h6) hz hc
 | agg xs vs hl hv hr ih=>
  intro y hy;cases y <;> simp [D.le] at hy
  rename_i ys;have hlen:=D.les_length hy;exact .agg ys vs (D.les_leaf hy hl) (by omega) (fun i y u h3 h4=>by
   obtain ⟨x,h5,h6⟩:=D.les_get hy i y h3;exact ih i x u h5 h4 h6)
def SV.le:SV→SV→Prop
 | .d x,.d y=>D.le x y
 | a,b=>a=b
theorem SR.le {w:World} {S:Nat→Prop} {γ:Nat→Value} {o:Nat→Option AO} {a b:SV} {v:Value} (h:SR w S γ o a v) (hl:a.le b):SR w S γ o b v:=by
 unfold SV.le at hl;split at hl
 ·cases h with
  | d _ _ hr=>exact .d _ _ (hr.le hl)
 ·exact hl ▸ h
def SV.les:List SV→List SV→Prop
 | [],[]=>True
 | x :: xs,y :: ys=>SV.le x y∧SV.les xs ys
 | _,_=>False
theorem SV.les_length:∀ {xs ys:List SV},SV.les xs ys→xs.length=ys.length
 | [],[],_=>rfl
 | x :: xs,y :: ys,h=>by simp only [SV.les] at h;simp [SV.les_length h.2]
 | [],y :: ys,h=>by simp [SV.les] at h
 | x :: xs,[],h=>by simp [SV.les] at h
theorem SV.les_get:∀ {xs ys:List SV},SV.les xs ys→∀ (i:Nat) (y:SV),ys[i]?=some y→∃ x,xs[i]?=some x∧SV.le x y
 | [],[],_,i,y,h=>by simp at h
 | x :: xs,y0 :: ys,h,0,y,hy=>by
  simp only [SV.les] at h;simp only [List.getElem?_cons_zero,Option.some.injEq] at hy;subst hy;exact ⟨x,rfl,h.1⟩
 | x :: xs,y0 :: ys,h,i+1,y,hy=>by
  simp only [SV.les] at h;exact SV.les_get h.2 i y (by simpa using hy)
 | [],y :: ys,h,_,_,_=>by simp [SV.les] at h
 | x :: xs,[],h,_,_,_=>by simp [SV.les] at h
theorem SV.le_lt {n:Nat} {a b:SV} (h:a.le b) (hl:a.lt n):b.lt n:=by
 unfold SV.le at h;split at h
 ·trivial
 ·exact h ▸ hl
theorem Spec.le {P:Program} {f:FuncId} {args args':List SV} {o:Nat→Option AO} {nk:Nat} {Q:SV→(Nat→Option AO)→Nat→Prop} (h:Spec P f args' o nk Q) (hl:SV.les args args'):Spec P f args o nk Q:=fun w S γ vs h1 h2 h3 h4=>by
 refine h w S γ vs h1 (h2.trans (SV.les_length hl)) (fun i c v hc hv=>?_) (lts_of fun i c hc=>?_)
 ·obtain ⟨x,h5,h6⟩:=SV.les_get hl i c hc;exact (h3 i x v h5 hv).le h6
 ·obtain ⟨x,h5,h6⟩:=SV.les_get hl i c hc;exact SV.le_lt h6 (lts_get h4 i x h5)
theorem PSpec.le {P:Program} {f:FuncId} {args args':List SV} {r:SV} (h:PSpec P f args' r) (hl:SV.les args args'):PSpec P f args r:=fun o nk=>(h o nk).le hl
mutual
def D.bd:D→Prop
 | .sl _ xs=>xs.length≤9223372036854775807∧D.bds xs
 | .agg xs=>D.bds xs
 | .str s=>s.length≤9223372036854775807
 | .int _ _=>True
 | .bool _=>True
 | .nil=>True
 | .nilp=>True
 | .nilk _=>True
 | .v _=>True
 | .seg _=>True
def D.bds:List D→Prop
 | []=>True
 | x :: xs=>D.bd x∧D.bds xs
end
theorem D.bds_of:∀ {xs:List D},(∀ x∈xs,D.bd x)→D.bds xs
 | [],_=>trivial
 | x :: xs,h=>by
  simp only [D.bds];exact ⟨h x (by simp),D.bds_of fun y hy=>h y (by simp [hy])⟩
theorem Rd.bd {w:World} {S:Nat→Prop} {x:D} {v:Value} (h:Rd w S x v):x.bd:=by
 induction h with
 | int k n=>trivial
 | bool b=>trivial
 | str s hm=>exact hm
 | nilp=>trivial
 | nil=>trivial
 | nilk k=>trivial
 | emp z A c hm=>exact ⟨by simp,trivial⟩
 | sl z xs a c vs hl hm hS hv hr hz hc ih=>
  refine ⟨by omega,D.bds_of fun x hx=>?_⟩;obtain ⟨i,hi⟩:=List.getElem?_of_mem hx;have hlt:i < xs.length:=(List.getElem?_eq_some_iff.1 hi).1;exact ih i x (vs[i]'(by omega)) hi (List.getElem?_eq_getElem _)
 | agg xs vs hl hv hr ih=>
  refine D.bds_of fun x hx=>?_;obtain ⟨i,hi⟩:=List.getElem?_of_mem hx;have hlt:i < xs.length:=(List.getElem?_eq_some_iff.1 hi).1;exact ih i x (vs[i]'(by omega)) hi (List.getElem?_eq_getElem _)
def SV.bd:SV→Prop
 | .d x=>x.bd
 | .el x=>x.bd
 | _=>True
def SV.bds:List SV→Prop
 | []=>True
 | x :: xs=>SV.bd x∧SV.bds xs
theorem SR.bd {w:World} {S:Nat→Prop} {γ:Nat→Value} {o:Nat→Option AO} {c:SV} {v:Value} (h:SR w S γ o c v):c.bd:=by
 cases h with
 | d _ _ hr=>exact hr.bd
 | el _ _ _ _ hr=>exact hr.bd
 | _=>trivial
theorem SV.bds_of:∀ {xs:List SV},(∀ (i:Nat) (c:SV),xs[i]?=some c→SV.bd c)→SV.bds xs
 | [],_=>trivial
 | x :: xs,h=>⟨h 0 x rfl,SV.bds_of fun i c hc=>h (i+1) c (by simpa using hc)⟩
theorem Spec.bd {P:Program} {f:FuncId} {args:List SV} {o:Nat→Option AO} {nk:Nat} {Q:SV→(Nat→Option AO)→Nat→Prop} (h:SV.bds args→Spec P f args o nk Q):Spec P f args o nk Q:=fun w S γ vs h1 h2 h3 h4=>
 h (SV.bds_of fun i c hc=>(h3 i c (vs[i]'(by have:=(List.getElem?_eq_some_iff.1 hc).1;omega)) hc (List.getElem?_eq_getElem _)).bd) w S γ vs h1 h2 h3 h4
theorem PSpec.bd {P:Program} {f:FuncId} {args:List SV} {r:SV} (h:SV.bds args→PSpec P f args r):PSpec P f args r:=fun o nk=>Spec.bd fun hb=>h hb o nk
def RSpec (P:Program) (f:FuncId) (args:List SV) (e z:Nat) (xs:List D):Prop:=∀ (o:Nat→Option AO) (nk:Nat),Spec P f args o nk fun r o' nk'=>∃ q,r=.row q∧nk≤q∧q < nk'∧o' q=some (.row e z xs)∧∀ t,t < nk→o' t=o t
theorem RSpec.of {P:Program} {f:FuncId} {n:Nat} {ts:List Nat} {c:Code} {args:List SV} {e z:Nat} {xs:List D} (hf:FnOk P f n ts c) (hn:args.length≤n)
 (h:∀ o nk,WP P n nk c ⟨slots args,o,nk⟩ (retQ ts fun r o' nk'=>∃ q,r=.row q∧nk≤q∧q < nk'∧o' q=some (.row e z xs)∧∀ t,t < nk→o' t=o t)):RSpec P f args e z xs:=fun o nk=>Spec.of_body hf hn (h o nk)
theorem rrow_ok {ts:List Nat} {sl:Nat→SV} {o o0:Nat→Option AO} {nk nk0 q e z:Nat} {xs:List D} (h1:resOf ts ⟨sl,o,nk⟩=.row q) (h2:nk0≤q) (h3:q < nk) (h5:o q=some (.row e z xs)) (h4:∀ t,t < nk0→o t=o0 t) :
 retQ ts (fun r o' nk'=>∃ q,r=.row q∧nk0≤q∧q < nk'∧o' q=some (.row e z xs)∧∀ t,t < nk0→o' t=o0 t) .ret ⟨sl,o,nk⟩:=⟨q,h1,h2,h3,h5,h4⟩
theorem o_rcall {P:Program} {Θ:Tab} {K:SV→(Nat→Option AO)→Nat→Prop} {sl:Nat→SV} {o:Nat→Option AO} {nk:Nat} {g:FuncId} {asx:Array Operand} {ts:Array Nat} {us:List SV} {e z:Nat} {xs:List D} (hs:RSpec P g us e z xs) (ha:asx.toList.map (ev sl)=us)
    (h:∀ q o1 nk1,nk≤q→q < nk1→o1 q=some (.row e z xs)→(∀ t,t < nk→o1 t=o t)→K (.row q) o1 nk1):vOp P Θ (.call { callee:=.value (.func g),args:=asx,argTypes:=ts }) ⟨sl,o,nk⟩ K:=
  o_call (hs o nk) ha (by rintro r o1 nk1 ⟨q,rfl,h1,h2,h3,h4⟩;exact h q o1 nk1 h1 h2 h3 h4)
def RDSpec (P:Program) (f:FuncId) (args:List SV) (e z:Nat) (xs:List D) (d:D):Prop:=∀ (o:Nat→Option AO) (nk:Nat),Spec P f args o nk fun r o' nk'=>∃ q,r=.tup [.row q,.d d]∧nk≤q∧q < nk'∧o' q=some (.row e z xs)∧∀ t,t < nk→o' t=o t
theorem RDSpec.of {P:Program} {f:FuncId} {n:Nat} {ts:List Nat} {c:Code} {args:List SV} {e z:Nat} {xs:List D} {d:D} (hf:FnOk P f n ts c) (hn:args.length≤n)
 (h:∀ o nk,WP P n nk c ⟨slots args,o,nk⟩ (retQ ts fun r o' nk'=>∃ q,r=.tup [.row q,.d d]∧nk≤q∧q < nk'∧o' q=some (.row e z xs)∧∀ t,t < nk→o' t=o t)):RDSpec P f args e z xs d:=fun o nk=>Spec.of_body hf hn (h o nk)
theorem rrowd_ok {ts:List Nat} {sl:Nat→SV} {o o0:Nat→Option AO} {nk nk0 q e z:Nat} {xs:List D} {d d':D} (h1:resOf ts ⟨sl,o,nk⟩=.tup [.row q,.d d']) (hd:d'=d) (h2:nk0≤q) (h3:q < nk) (h5:o q=some (.row e z xs)) (h4:∀ t,t < nk0→o t=o0 t) :
 retQ ts (fun r o' nk'=>∃ q,r=.tup [.row q,.d d]∧nk0≤q∧q < nk'∧o' q=some (.row e z xs)∧∀ t,t < nk0→o' t=o0 t) .ret ⟨sl,o,nk⟩:=⟨q,by rw [h1,hd],h2,h3,h5,h4⟩
theorem o_rdcall {P:Program} {Θ:Tab} {K:SV→(Nat→Option AO)→Nat→Prop} {sl:Nat→SV} {o:Nat→Option AO} {nk:Nat} {g:FuncId} {asx:Array Operand} {ts:Array Nat} {us:List SV} {e z:Nat} {xs:List D} {d:D} (hs:RDSpec P g us e z xs d) (ha:asx.toList.map (ev sl)=us)
    (h:∀ q o1 nk1,nk≤q→q < nk1→o1 q=some (.row e z xs)→(∀ t,t < nk→o1 t=o t)→K (.tup [.row q,.d d]) o1 nk1):vOp P Θ (.call { callee:=.value (.func g),args:=asx,argTypes:=ts }) ⟨sl,o,nk⟩ K:=
  o_call (hs o nk) ha (by rintro r o1 nk1 ⟨q,rfl,h1,h2,h3,h4⟩;exact h q o1 nk1 h1 h2 h3 h4)
theorem ret_ok {ts:List Nat} {sl:Nat→SV} {o o0:Nat→Option AO} {nk nk0:Nat} {x y:D} (h1:resOf ts ⟨sl,o,nk⟩=.d y) (h2:y=x) (h3:nk0≤nk) (h4:∀ t,t < nk0→o t=o0 t) :
 retQ ts (fun r o' nk'=>r=.d x∧nk0≤nk'∧∀ t,t < nk0→o' t=o0 t) .ret ⟨sl,o,nk⟩:=⟨by rw [h1,h2],h3,h4⟩
theorem wrap_succ {i:Nat} (h:i+1≤9223372036854775807):IntKind.i64.wrap ((i:Int)+1)=((i+1:Nat):Int):=by
 rw [wrap_i64 (by omega) (by omega)];omega
theorem cnt {i:Nat} (h:i+1≤9223372036854775807):SV.d (.int .i64 (IntKind.i64.wrap ((i:Int)+1)))=SV.d (.int .i64 ((i+1:Nat):Int)):=by rw [wrap_succ h]
theorem ia_map {α β:Type} {xs:List α} {f:α→β} {i:Nat} (h:i < xs.length):(xs.map f)[((i:Int)).toNat]?=some (f (xs[i]'h)):=by simp [h]
abbrev Str:=List UInt8
inductive Val where
 | mk (kind int:Int) (text:Str) (items:List Val) (names:List Str)
def Val.kind:Val→Int | .mk k _ _ _ _=>k
def Val.int:Val→Int | .mk _ i _ _ _=>i
def Val.text:Val→Str | .mk _ _ t _ _=>t
def Val.items:Val→List Val | .mk _ _ _ xs _=>xs
def Val.names:Val→List Str | .mk _ _ _ _ ns=>ns
mutual
def encV:Val→D
 | .mk k i t xs ns=>.agg [.int .i64 k,.int .i64 i,.str t,.sl 5 (encVs xs),.sl 1 (ns.map .str)]
def encVs:List Val→List D
 | []=>[]
 | x :: xs=>encV x :: encVs xs
end
theorem encVs_map:∀ xs,encVs xs=xs.map encV
 | []=>rfl
 | x :: xs=>by rw [encVs,encVs_map xs];rfl
theorem encV_leaf (v:Val):(encV v).leaf=false:=by cases v;rfl
theorem encV_width (v:Val):(encV v).width=5:=by cases v;rfl
theorem encVs_length (xs:List Val):(encVs xs).length=xs.length:=by rw [encVs_map];simp
theorem ia_vs {xs:List Val} {i:Nat} (h:i < xs.length):(encVs xs)[((i:Int)).toNat]?=some (encV (xs[i]'h)):=by rw [encVs_map];exact ia_map h
theorem items_lt {k i t xs ns} {j:Nat} (h:j < xs.length):SizeOf.sizeOf (xs[j]'h) < SizeOf.sizeOf (Val.mk k i t xs ns):=by
 have:=List.sizeOf_lt_of_mem (List.getElem_mem h);simp only [Val.mk.sizeOf_spec];omega
section
variable {P:Program} {Θ:Tab} {K:SV→(Nat→Option AO)→Nat→Prop} {sl:Nat→SV} {o:Nat→Option AO} {nk:Nat} {x y ix:Operand} {t e f:Nat}
theorem o_sclo {g:FuncId} {fs cs:List SV} {asx:Array Operand} {ts:Array Nat} {us:List SV} {r:SV} (hx:ev sl x=.clo g fs cs) (hs:Spec P g us o nk fun r' o' nk'=>r'=r∧o'=o∧nk'=nk) (ha:fs++asx.toList.map (ev sl)++cs=us) (h:K r o nk):vOp P Θ (.call { callee:=.value x,args:=asx,argTypes:=ts }) ⟨sl,o,nk⟩ K:=by
 refine Or.inl ?_;subst ha;refine ⟨g,fs,cs,hx,?_⟩;exact hs.mono (by rintro r' o' nk' ⟨rfl,rfl,rfl⟩;exact h)
theorem o_scall {g:FuncId} {asx:Array Operand} {ts:Array Nat} {us:List SV} {r:SV} (hs:Spec P g us o nk fun r' o' nk'=>r'=r∧o'=o∧nk'=nk) (ha:asx.toList.map (ev sl)=us) (h:K r o nk):vOp P Θ (.call { callee:=.value (.func g),args:=asx,argTypes:=ts }) ⟨sl,o,nk⟩ K:=
 o_call hs ha (by rintro r' o' nk' ⟨rfl,rfl,rfl⟩;exact h)
theorem o_ia_map {α:Type} {i j:TI} {z:Nat} {xs:List α} {g:α→D} {k:IntKind} {m:Nat} (hx:ev sl x=.d (.sl z (xs.map g))) (hy:ev sl ix=.d (.int k (m:Int))) (hi:Θ t=some i) (hk:i.k=.slice e) (hj:Θ e=some j) (hz:z=j.sz) (hlt:m < xs.length) (h:K (.el (g (xs[m]'hlt))) o nk):vOp P Θ (.indexAddr t x ix) ⟨sl,o,nk⟩ K:=
 o_ia_sl hx hy hi hk hj hz (Int.natCast_nonneg _) (ia_map hlt) h
theorem o_ia_vs {i j:TI} {z:Nat} {xs:List Val} {k:IntKind} {m:Nat} (hx:ev sl x=.d (.sl z (encVs xs))) (hy:ev sl ix=.d (.int k (m:Int))) (hi:Θ t=some i) (hk:i.k=.slice e) (hj:Θ e=some j) (hz:z=j.sz) (hlt:m < xs.length) (h:K (.el (encV (xs[m]'hlt))) o nk):vOp P Θ (.indexAddr t x ix) ⟨sl,o,nk⟩ K:=
 o_ia_sl hx hy hi hk hj hz (Int.natCast_nonneg _) (ia_vs hlt) h
end
theorem bnd_nat {y d m:Nat} {k:IntKind} (h:m≤y):bndO y d (some (SV.d (.int k (m:Int))))=some m:=by
 show (if (0:Int)≤(m:Int)∧(m:Int)≤(y:Int) then some (m:Int).toNat else none)=some m;rw [if_pos ⟨by omega,by omega⟩];simp
section
variable {α β:Type} {p:Prop} [Decidable p] {a b:Bool} {m n:Nat}
theorem Q0 {f:α→β} {asx:List α}:(asx.map f).length=asx.length:=List.length_map ..
theorem Q1 (xs:List Val):(encVs xs).length=xs.length:=encVs_length xs
theorem Q2:(decide p=true)=p:=decide_eq_true_eq
theorem Q3:decide p=false↔¬p:=decide_eq_false_iff_not
theorem Q4 (b:Bool):((!b)=true)=(b=false):=Bool.not_eq_true' b
theorem Q5 (b:Bool):((!b)=false)=(b=true):=Bool.not_eq_false' b
theorem Q6 (b:Bool):(!!b)=b:=Bool.not_not b
theorem Q7:(m:Int) < (n:Int)↔m < n:=Int.ofNat_lt
theorem Q8:(m:Int)≤(n:Int)↔m≤n:=Int.ofNat_le
theorem Q9 (a b:Bool):((a && b)=true)=(a=true∧b=true):=Bool.and_eq_true a b
theorem Qa (a b:Bool):((a || b)=true)=(a=true∨b=true):=Bool.or_eq_true a b
theorem Qb (a b:Bool):(a || b)=false↔a=false∧b=false:=Bool.or_eq_false_iff
theorem Qc [BEq α] [LawfulBEq α] {x y:α}:(x == y)=true↔x=y:=beq_iff_eq
theorem Qd [BEq α] [LawfulBEq α] {x y:α}:(x != y)=true↔x≠y:=bne_iff_ne
end
theorem bAt_eq {l:Str} {i:Nat} (h:i < l.length):bAt l i=((l[i]'h).toNat:Int):=by simp [bAt,h]
theorem toNat_eq {c:UInt8} {n:Nat} (hn:n < 256):((c.toNat:Int)=(n:Int))↔c=UInt8.ofNat n:=by
 constructor
 ·intro h;have h1:c.toNat=n:=by omega
  rw [← h1];simp
 ·intro h;subst h;simp;omega
def nameV (s:Str):Bool:=decide (1≤s.length∧s.length≤32∧s[0]?≠some 36∧(46:UInt8) ∉ s)
theorem all_snoc {α:Type} {xs:List α} {p:α→Bool} {i:Nat} (h:i < xs.length):(xs.take (i+1)).all p=((xs.take i).all p && p (xs[i]'h)):=by
 rw [List.take_succ_eq_append_getElem h,List.all_append,List.all_cons,List.all_nil,Bool.and_true]
theorem all_false {α:Type} {xs:List α} {p:α→Bool} {i:Nat} (h:i < xs.length) (hp:p (xs[i]'h)=false):xs.all p=false:=by
 rw [List.all_eq_false];exact ⟨_,List.getElem_mem h,by simp [hp]⟩
theorem all_true {α:Type} {xs:List α} {p:α→Bool} {i:Nat} (h:¬ i < xs.length) (hp:(xs.take i).all p=true):xs.all p=true:=by
 rwa [List.take_of_length_le (by omega)] at hp
theorem items_lt' {k i t xs ns m} {j:Nat} (h:j < xs.length) (hv:SizeOf.sizeOf (Val.mk k i t xs ns) < m+1):SizeOf.sizeOf (xs[j]'h) < m:=by
 have:=items_lt (k:=k) (i:=i) (t:=t) (ns:=ns) h;omega
def twiceV (ns:List Str):Bool:=!decide ns.Nodup
def kindOk (k i:Int) (t:Str) (n:Nat) (ns:List Str):Bool:=
 if k=1 then decide (i=0) && decide (t=[]) && decide (n=0) && decide (ns.length=0)
 else if k=2 then decide (0≤i) && decide (i≤1) && decide (t=[]) && decide (n=0) && decide (ns.length=0)
 else if k=3 then decide (t=[]) && decide (n=0) && decide (ns.length=0)
 else if k=4∨k=5 then decide (i=0) && decide (n=0) && decide (ns.length=0)
 else if k=6 then decide (i=0) && decide (t=[]) && decide (ns.length=0)
 else if k=7 then decide (i=0) && decide (t=[]) && decide (ns.length=n) && !twiceV ns
 else false
mutual
def mayV:Val→Bool
 | .mk k i t xs ns=>maysV xs && ns.all nameV && kindOk k i t xs.length ns
def maysV:List Val→Bool
 | []=>true
 | x :: xs=>mayV x && maysV xs
end
theorem maysV_all:∀ xs,maysV xs=xs.all mayV
 | []=>rfl
 | x :: xs=>by rw [maysV,maysV_all xs];rfl
mutual
def depthV:Val→Nat
 | .mk _ _ _ xs _=>depthsV xs+1
def depthsV:List Val→Nat
 | []=>0
 | x :: xs=>max (depthV x) (depthsV xs)
end
noncomputable instance:DecidableEq Val:=fun _ _=>Classical.propDecidable _
noncomputable def sameV (v w:Val):Bool:=decide (v=w)
def pathV (p:List Str):Bool:=p.all nameV && decide (1≤p.length) && decide (p.length≤8)
def beginsV (a b:List Str):Bool:=decide (a <+: b)
theorem twice_true {ns:List Str} {i j:Nat} (hi:i < ns.length) (hj:j < i) (e:ns[i]'hi=ns[j]'(by omega)):twiceV ns=true:=by
 unfold twiceV;simp only [Bool.not_eq_true',decide_eq_false_iff_not];intro hn;exact (List.pairwise_iff_getElem.1 hn) j i (by omega) hi hj e.symm
def firstI {α:Type} (p:α→Bool) (xs:List α):Int:=if xs.any p then (xs.findIdx p:Int) else -1
theorem firstI_at {α:Type} {p:α→Bool} {xs:List α} {i:Nat} (h:i < xs.length) (hp:p (xs[i]'h)=true) (hb:∀ (j:Nat) (hj:j < xs.length),j < i→p (xs[j]'hj)=false):firstI p xs=i:=by
 have h1:xs.any p=true:=List.any_eq_true.2 ⟨_,List.getElem_mem h,hp⟩;unfold firstI;rw [if_pos h1];have:xs.findIdx p=i:=(List.findIdx_eq h).2 ⟨hp,fun j hj=>by simpa using hb j (by omega) hj⟩;rw [this]
theorem firstI_none {α:Type} {p:α→Bool} {xs:List α} (hb:∀ (j:Nat) (hj:j < xs.length),p (xs[j]'hj)=false):firstI p xs=-1:=by
 unfold firstI;rw [if_neg];rw [List.any_eq_true];rintro ⟨x,hx,hp⟩;obtain ⟨j,hj,rfl⟩:=List.mem_iff_getElem.1 hx;rw [hb j hj] at hp;cases hp
theorem firstI_nn {α:Type} (p:α→Bool) (xs:List α):decide (0≤firstI p xs)=xs.any p:=by
 unfold firstI;cases h:xs.any p <;> simp
structure Dlt where
 kind:Int
 path:List Str
 value:Val
 n:Int
def encD (d:Dlt):D:=.agg [.int .i64 d.kind,.sl 1 (d.path.map .str),.int .i64 d.value.kind,.int .i64 d.value.int,.str d.value.text,.sl 5 (encVs d.value.items),.sl 1 (d.value.names.map .str),.int .i64 d.n]
def namesV (ns:List Str):Bool:=ns.all nameV && !twiceV ns
theorem names_bad {ns:List Str} {i:Nat} (h:i < ns.length) (hb:(!nameV (ns[i]'h) || decide (ns[i]'h∈ns.take i))=true):namesV ns=false:=by
 unfold namesV;rw [Bool.or_eq_true] at hb;rcases hb with hb | hb
 ·rw [all_false h (by simpa using hb)];rfl
 ·have hm:ns[i]'h∈ns.take i:=by simpa using hb
  obtain ⟨j,hj,he⟩:=List.mem_iff_getElem.1 hm;have hji:j < i:=by simp at hj;omega
  rw [List.getElem_take] at he;rw [twice_true h hji he.symm];simp
theorem names_good {ns:List Str} (h1:ns.all nameV=true) (h2:ns.Nodup):namesV ns=true:=by
 unfold namesV twiceV;simp [h1,h2]
theorem nodup_snoc {ns:List Str} {i:Nat} (h:i < ns.length) (hn:(ns.take i).Nodup) (hb:ns[i]'h ∉ ns.take i):(ns.take (i+1)).Nodup:=by
 rw [List.take_succ_eq_append_getElem h];rw [List.nodup_append];refine ⟨hn,by simp,?_⟩;intro a ha b hb' e;simp only [List.mem_singleton] at hb';subst hb';subst e;exact hb ha
def grp (u:Nat):Str:=if h:u < 128 then [UInt8.ofNat u] else UInt8.ofNat (u % 128+128) :: grp (u / 128)
termination_by u
decreasing_by omega
theorem grp_lt {u:Nat} (h:u < 128):grp u=[UInt8.ofNat u]:=by rw [grp,dif_pos h]
theorem grp_ge {u:Nat} (h:¬ u < 128):grp u=UInt8.ofNat (u % 128+128) :: grp (u / 128):=by rw [grp,dif_neg h]
theorem grp_len (n:Nat):∀ u,u < 128 ^ n→1≤n→(grp u).length≤n:=by
 induction n with
 | zero=>intro u _ h;omega
 | succ n ih=>
  intro u hu _;by_cases h:u < 128
  ·rw [grp_lt h];simp
  ·rw [grp_ge h,List.length_cons];have hn:1≤n:=by
    rcases Nat.eq_zero_or_pos n with rfl | h'
    ·simp at hu;omega
    ·exact h'
   have:=ih (u / 128) (by rw [Nat.pow_succ] at hu;omega) hn;omega
theorem wrap_u8 (m:Int):IntKind.u8.wrap m=m % 256:=by
 simp [IntKind.wrap,IntKind.bits,IntKind.signed]
theorem bytesD_snoc (l:Str) (c:UInt8):bytesD l++[.int .u8 c.toNat]=bytesD (l++[c]):=by simp [bytesD]
theorem bytesD_length (l:Str):(bytesD l).length=l.length:=by simp [bytesD]
def valCells (v:Val):List D:=[.int .i64 v.kind,.int .i64 v.int,.str v.text,.sl 5 (encVs v.items),.sl 1 (v.names.map .str)]
theorem encV_eq (v:Val):encV v=.agg (valCells v):=by cases v;rfl
theorem pv {P:Program} {f:FuncId} {v:Val} {r:SV} (h:PSpec P f [.d (encV v)] r):PSpec P f [.d (.agg (valCells v))] r:=encV_eq v ▸ h
def szN:List Str→Nat
 | []=>0
 | s :: r=>s.length+1+szN r
mutual
def szV:Val→Nat
 | .mk _ _ t xs ns=>1+t.length+szVs xs+szN ns
def szVs:List Val→Nat
 | []=>0
 | x :: xs=>szV x+szVs xs
end
theorem szV_pos (v:Val):1≤szV v:=by cases v;simp only [szV];omega
theorem szVs_get:∀ {xs:List Val} {j:Nat} (h:j < xs.length),szV (xs[j]'h)≤szVs xs
 | x :: xs,0,_=>by simp [szVs]
 | x :: xs,j+1,h=>by
  have:=szVs_get (xs:=xs) (j:=j) (by simpa using h);simp only [szVs,List.getElem_cons_succ];omega
theorem szVs_len:∀ xs:List Val,xs.length≤szVs xs
 | []=>by simp
 | x :: xs=>by
  have:=szVs_len xs;have:=szV_pos x;simp only [szVs,List.length_cons];omega
theorem szN_get:∀ {xs:List Str} {j:Nat} (h:j < xs.length),(xs[j]'h).length≤szN xs
 | x :: xs,0,_=>by simp [szN];omega
 | x :: xs,j+1,h=>by
  have:=szN_get (xs:=xs) (j:=j) (by simpa using h);simp only [szN,List.getElem_cons_succ];omega
theorem szN_len:∀ xs:List Str,xs.length≤szN xs
 | []=>by simp
 | x :: xs=>by
  have:=szN_len xs;simp only [szN,List.length_cons];omega
theorem depthsV_snoc:∀ {xs:List Val} {i:Nat} (h:i < xs.length),depthsV (xs.take (i+1))=max (depthsV (xs.take i)) (depthV (xs[i]'h))
 | x :: xs,0,_=>by simp [depthsV]
 | x :: xs,i+1,h=>by
  have:=depthsV_snoc (xs:=xs) (i:=i) (by simpa using h);simp only [List.take_succ_cons,depthsV,this,List.getElem_cons_succ];omega
mutual
theorem depth_sz:∀ v:Val,depthV v≤szV v
 | .mk k i t xs ns=>by
  have:=depths_sz xs;simp only [depthV,szV];omega
theorem depths_sz:∀ xs:List Val,depthsV xs≤szVs xs
 | []=>by simp [depthsV]
 | x :: xs=>by
  have h1:=depth_sz x;have h2:=depths_sz xs;simp only [depthsV,szVs];omega
end
section
variable {P:Program} {Θ:Tab} {s:St} {a:Act} {w:World} {S:Nat→Prop} {γ:Nat→Value} {op:Oper}
theorem load_now (hΘ:TabOk P Θ) (hf:Fr s a w S γ) {t:TypeId} {x:Operand} {K:SV→Prop} (ho:op.op=.load t x) (h:ldOp Θ s.o t (ev s.sl x) K) :
    ∃ v u,(execOp a.eval op).run P w=.ok (.value u) w∧SR w S γ s.o v u∧v.lt s.nk∧K v:=by
  obtain ⟨i,hi,h⟩:=h;have hT:=hΘ t i hi;have hx:=hf.ev x;have hlx:=hf.lt x;generalize Abs.ev s.sl x=c at h hx hlx;have hrun:(execOp a.eval op).run P w=((Instr.loadAt t (a.eval x)).run P w).andThen fun u w'=>.ok (.value u) w':=by simp [execOp,ho]
  generalize a.eval x=ux at hx hrun;cases c with
  | loc k f=>
    obtain ⟨cs,hk,h⟩:=h;obtain ⟨⟨g,arr,ty,h1,h2,h3,h4⟩,hl⟩:=hf.sto.box k cs hk;cases hx with
    | loc _ _ v hv=>
      obtain ⟨g',h5,h6⟩:=hv cs hk;rw [h1] at h5;simp at h5;subst h5;by_cases hag:i.k.agg=true
      · rw [if_pos hag] at h;have hlen:((cs.drop f).take i.sz).length=i.sz:=by
          rcases h with ⟨ds,h7,h8,_⟩ | ⟨h7,_⟩
          · rw [allD_spec h7];simp [h8]
          · exact h7
        let us:=((arr.toList.drop f).take i.sz);have hus:us.length=i.sz:=by
          simp only [us,List.length_take,List.length_drop,Array.length_toList,h3] at hlen ⊢;exact hlen
        have hcell:∀ j u,us[j]?=some u→arr[f+j]?=some u∧j < i.sz:=by
          intro j u hu;have hj:j < i.sz:=by rw [← hus];exact (List.getElem?_eq_some_iff.1 hu).1
          simp only [us,List.getElem?_take,List.getElem?_drop] at hu;rw [if_pos hj] at hu;exact ⟨by simpa using hu,hj⟩
        have hl2:(loadCells ⟨g,f,none⟩ us.length).run P w=.ok us.toArray w:=
          run_loadCells_list (P:=P) w ⟨g,f,none⟩ us (fun j u hu=>by rw [Addr.add_mid,cell_at h2];exact (hcell j u hu).1)
        rcases h with ⟨ds,h7,h8,h9,hK⟩ | ⟨_,hall,hK⟩
        rotate_left
        · refine ⟨_,.agg us.toArray,?_,(.ag _ us (by rw [hus,hlen]) (fun j d u hd hu=>?_) ?_),(lts_of fun j c hc=>?_),hK⟩
          · rw [hrun,h6];rw [hus] at hl2;simp [Instr.loadAt,Instr.sureAddr,loadVar,hT.run_agg,hag,hT.run_size,hl2]
          · obtain ⟨h11,h12⟩:=hcell j u hu;have h13:cs[f+j]?=some d:=by
              simpa [List.getElem?_take,List.getElem?_drop,h12] using hd
            exact h4 _ _ _ h13 h11
          · intro u hu;obtain ⟨j,hj⟩:=List.getElem?_of_mem hu;obtain ⟨h11,h12⟩:=hcell j u hj;have hlt:j < ((cs.drop f).take i.sz).length:=by rw [hlen];exact h12
            have hd:=List.getElem?_eq_getElem hlt;have h13:cs[f+j]?=some (((cs.drop f).take i.sz)[j]'hlt):=by
              rw [← hd];simp [List.getElem?_take,List.getElem?_drop,h12]
            exact oneC_one hf.sto (h4 _ _ _ h13 h11) (List.all_eq_true.1 hall _ (List.getElem_mem hlt))
          · have hm:=List.mem_of_mem_drop (List.mem_of_mem_take (List.mem_of_getElem? hc));obtain ⟨q,hq⟩:=List.getElem?_of_mem hm;exact lts_get hl q c hq
        have h10:=allD_spec h7;refine ⟨_,.agg us.toArray,?_,.d _ _ (.agg ds us h9 (by rw [hus,h8]) fun j d u hd hu=>?_),trivial,hK⟩
        · rw [hrun,h6];rw [hus] at hl2;simp [Instr.loadAt,Instr.sureAddr,loadVar,hT.run_agg,hag,hT.run_size,hl2]
        · obtain ⟨h11,h12⟩:=hcell j u hu;have h13:cs[f+j]?=some (.d d):=by
            have:((cs.drop f).take i.sz)[j]?=some (.d d):=by rw [h10,List.getElem?_map,hd];rfl
            simpa [List.getElem?_take,List.getElem?_drop,h12] using this
          cases h4 _ _ _ h13 h11 with
          | d _ _ hr=>exact hr
      · rw [if_neg hag] at h;obtain ⟨c,h7,hK⟩:=h;have hlt:f < arr.size:=by rw [h3];exact (List.getElem?_eq_some_iff.1 h7).1
        have hcell:w.cell? ⟨g,f,none⟩=some arr[f]:=by rw [cell_at h2];simp [hlt]
        refine ⟨_,arr[f],?_,(h4 f c _ h7 (by simp [hlt])),(lts_get hl f c h7),hK⟩;rw [hrun,h6];simp [Instr.loadAt,Instr.sureAddr,loadVar,hT.run_agg,hag,hcell]
  | el x0=>
    obtain ⟨h1,h2,hK⟩:=h;cases hx with
    | el _ ad v hS hr hc=>
      by_cases hag:i.k.agg=true
      · rw [hag] at h1;cases hr with
        | agg xs vs h3 h4 h5=>
          have hl2:(loadCells ad vs.length).run P w=.ok vs.toArray w:=
            run_loadCells_list (P:=P) w ad vs (fun j u hu=>hc j u (by simpa [Value.cells] using hu))
          have hsz:vs.length=i.sz:=by rw [h4];exact h2
          rw [hsz] at hl2;refine ⟨_,.agg vs.toArray,?_,.d _ _ (.agg xs vs h3 h4 h5),trivial,hK⟩;rw [hrun];simp [Instr.loadAt,Instr.sureAddr,loadVar,hT.run_agg,hag,hT.run_size,hl2]
        | _=>simp [D.leaf] at h1
      · simp only [Bool.not_eq_true] at hag;rw [hag] at h1;have hone:=hr.leaf_cells (by simpa using h1);have hcell:w.cell? ad=some v:=by
          have:=hc 0 v (by rw [hone];rfl);simpa [Addr.add] using this
        refine ⟨_,v,?_,.d _ _ hr,trivial,hK⟩;rw [hrun];simp [Instr.loadAt,Instr.sureAddr,loadVar,hT.run_agg,hag,hcell]
  | _=>exact h.elim
end
def ResIs (Θ:Tab) (s:St) (r:ResultVar) (v:SV):Prop:=
 match r with
 | .tmp t=>v=s.sl t
 | .cell a t=>(∃ k f,s.sl a=.loc k f)∧ldOp Θ s.o t (s.sl a) fun x=>x=v
def ResL (Θ:Tab) (s:St):List ResultVar→List SV→Prop
 | [],[]=>True
 | r :: rs,v :: vs=>ResIs Θ s r v∧ResL Θ s rs vs
 | _,_=>False
theorem ResL.length {Θ:Tab} {s:St}:∀ {rs:List ResultVar} {vs:List SV},ResL Θ s rs vs→rs.length=vs.length
 | [],[],_=>rfl
 | r :: rs,v :: vs,h=>by simp [ResL.length h.2]
 | [],v :: vs,h=>h.elim
 | r :: rs,[],h=>h.elim
def resF (tmps:Array Value):ResultVar→Sem Value
 | .tmp t=>pure (tmps.getD t undef)
 | .cell a t=>do loadVar t (← asAddr (tmps.getD a undef))
theorem load_res {P:Program} {Θ:Tab} {s:St} {a:Act} {w:World} {S:Nat→Prop} {γ:Nat→Value} (hΘ:TabOk P Θ) (hf:Fr s a w S γ) {x t:Nat} {v:SV} (h:ResIs Θ s (.cell x t) v) :
    ∃ u,(resF a.tmps (.cell x t)).run P w=.ok u w∧SR w S γ s.o v u∧v.lt s.nk:=by
  obtain ⟨⟨k,f,hk⟩,hl⟩:=h;obtain ⟨v',u,hr,h3,h4,hv⟩:=load_now (op:={ dst:=none,op:=.load t (.tmp x),type:=0,pos:=default,after:=#[],guard:=none }) hΘ hf rfl (K:=fun y=>y=v) hl;subst hv;refine ⟨u,?_,h3,h4⟩;have hsl:=hf.sl x;rw [hk] at hsl hl;obtain ⟨i,hi,cs,hcs,_⟩:=hl;generalize hu:a.tmps.getD x undef=ux at hsl;cases hsl with
  | loc _ _ _ hv=>
    obtain ⟨g,_,rfl⟩:=hv cs hcs;have hrun:(execOp a.eval { dst:=none,op:=.load t (.tmp x),type:=0,pos:=default,after:=#[],guard:=none }).run P w=((loadVar t ⟨g,f,none⟩).run P w).andThen fun u w'=>.ok (.value u) w':=by
      have he:a.eval (.tmp x)=.pointer (some ⟨g,f,none⟩):=hu;simp [execOp,Instr.loadAt,Instr.sureAddr,he]
    have hres:(resF a.tmps (.cell x t)).run P w=(loadVar t ⟨g,f,none⟩).run P w:=by
      simp only [resF,hu,asAddr,Sem.run_bind,Sem.run_pure,Result.andThen_ok]
    rw [hres];rw [hrun] at hr;cases hq:(loadVar t ⟨g,f,none⟩).run P w with
    | ok u' w''=>
      rw [hq] at hr;simp only [Result.andThen_ok] at hr;injection hr with e1 e2;injection e1 with e1;rw [e1,e2]
    | halt y w''=>
      rw [hq] at hr;cases hr
theorem run_rs {P:Program} {Θ:Tab} {s:St} {a:Act} {w:World} {S:Nat→Prop} {γ:Nat→Value} (hΘ:TabOk P Θ) (hf:Fr s a w S γ):∀ (rs:List ResultVar) (vs:List SV),ResL Θ s rs vs→
    ∃ us,(rs.mapM (resF a.tmps)).run P w=.ok us w∧us.length=vs.length∧(∀ (i:Nat) (c:SV) (u:Value),vs[i]?=some c→us[i]?=some u→SR w S γ s.o c u)∧SV.lts s.nk vs
  | [],[],_=>⟨[],by simp,rfl,by simp,trivial⟩
  | [],v :: vs,h=>h.elim
  | r :: rs,[],h=>h.elim
  | r :: rs,v :: vs,h=>by
    obtain ⟨h1,h2⟩:=h;have hone:∃ u,(resF a.tmps r).run P w=.ok u w∧SR w S γ s.o v u∧v.lt s.nk:=by
      cases r with
      | tmp t=>
        have e:v=s.sl t:=h1;subst e;exact ⟨_,by simp [resF],hf.sl t,hf.slt t⟩
      | cell x t=>exact load_res hΘ hf h1
    obtain ⟨u,k1,k4,k5⟩:=hone;obtain ⟨us,m1,m4,m5,m6⟩:=run_rs hΘ hf rs vs h2;refine ⟨u :: us,?_,by simp [m4],fun i c x hc hx=>?_,⟨k5,m6⟩⟩
    · rw [List.mapM_cons];simp [k1,m1]
    · cases i with
      | zero=>
        simp only [List.getElem?_cons_zero,Option.some.injEq] at hc hx;subst hc;subst hx;exact k4
      | succ i=>exact m5 i c x (by simpa using hc) (by simpa using hx)
structure FnOkC (P:Program) (f:FuncId) (n:Nat) (rs:List ResultVar) (c:Code):Prop where
 mk ::
 out : ∃ fn, P.funcs[f]? = some fn ∧ fn.body = some c ∧ (fn.name == "runtime.NumGoroutine") = false ∧ fn.results.toList = rs ∧ fn.ntmps = n
def tupOf:List SV→SV
 | [v]=>v
 | vs=>.tup vs
def retC (Θ:Tab) (rs:List ResultVar) (Q:SV→(Nat→Option AO)→Nat→Prop):Exit→St→Prop
 | .normal,s=>∃ vs,ResL Θ s rs vs∧Q (tupOf vs) s.o s.nk
 | .ret,s=>∃ vs,ResL Θ s rs vs∧Q (tupOf vs) s.o s.nk
 | _,_=>False
theorem Spec.of_bodyC {P:Program} {Θ:Tab} (hΘ:TabOk P Θ) {f:FuncId} {n:Nat} {rs:List ResultVar} {c:Code} {args:List SV} {o:Nat→Option AO} {nk:Nat} {Q:SV→(Nat→Option AO)→Nat→Prop} (hf:FnOkC P f n rs c) (hn:args.length≤n)
    (h:WP P n nk c { sl:=slots args,o:=o,nk:=nk } (retC Θ rs Q)):Spec P f args o nk Q:=by
  intro w S γ vs h1 h2 h3 h4;obtain ⟨fn,e1,e2,e3,e4,e5⟩:=hf.out;have hcf:(callFunc f vs.toArray).run P w=.ok (.enter f vs.toArray) w:=by
    simp only [beq_eq_false_iff_ne,ne_eq] at e3;simp [callFunc,e1,e2,e3]
  unfold Does;rw [hcf];refine calls_of_wp e1 e2 ?_;have hrel:Rel { w:=w,S:=S,γ:=γ,o:=o,nk:=nk,n:=n } { sl:=slots args,o:=o,nk:=nk } { tmps:=vs.toArray++Array.replicate (fn.ntmps - vs.toArray.size) undef,defers:=[] } w:=by
    refine ⟨S,γ,h1,Tr.refl _ _ _ _ _,fun u=>?_,fun u=>?_,rfl,by simp;omega⟩
    · simp only [slots];rw [List.getD_eq_getElem?_getD];cases hu:args[u]? with
      | none=>exact .any _
      | some c=>
        have hlt:u < args.length:=(List.getElem?_eq_some_iff.1 hu).1;have hv:vs[u]?=some (vs[u]'(by omega)):=List.getElem?_eq_getElem (by omega);have:(vs.toArray++Array.replicate (fn.ntmps - vs.toArray.size) undef).getD u undef=vs[u]'(by omega):=by
          simp [Array.getElem?_append,show u < vs.length by omega]
        show SR w S γ o c ((vs.toArray++Array.replicate (fn.ntmps - vs.toArray.size) undef).getD u undef);rw [this];exact h3 u c _ hu hv
    · simp only [slots];rw [List.getD_eq_getElem?_getD];cases hu:args[u]? with
      | none=>trivial
      | some c=>exact lts_get h4 u c hu
  refine Go.wp_mono (h _ _ w rfl rfl hrel) ?_;rintro e a' w' ⟨s',⟨S',γ',hr⟩,q⟩;have key:(∃ vs,ResL Θ s' rs vs∧Q (tupOf vs) s'.o s'.nk)→a'.defers=[]∧∃ v,(results fn a'.tmps).run P w'=.ok v w'∧∃ u,Ending.returned v=.returned u∧Post P w S γ o nk Q u w':=by
    rintro ⟨vs',hrl,q⟩;obtain ⟨us,m1,m4,m5,m6⟩:=run_rs hΘ hr.fr rs vs' hrl;have hrs:fn.results=rs.toArray:=by apply Array.ext';simpa using e4
    have hres:(results fn a'.tmps).run P w'=.ok (match us with | [u]=>u | us=>.tuple us.toArray) w':=by
      unfold results;rw [hrs,List.mapM_toArray];simp only [Sem.run_bind,Sem.run_map];refine Eq.trans (congrArg (fun r=>Result.andThen (Result.andThen r _) _) m1) ?_
      match us with
      | []=>simp
      | [t]=>simp
      | t :: u :: r=>simp
    refine ⟨hr.df,_,hres,_,rfl,tupOf vs',s'.o,s'.nk,S',γ',q,hr.sto,hr.tr,?_,?_⟩
    · match us,vs',m4,m5 with
      | [],[],_,_=>exact .tup [] [] rfl (by simp)
      | [u],[v],_,h5=>exact h5 0 v u rfl rfl
      | u :: u' :: us,v :: v' :: vs'',h4,h5=>exact .tup _ _ h4 h5
    · match vs',m6 with
      | [],_=>exact trivial
      | [v],h=>exact h.1
      | v :: v' :: vs'',h=>exact h
  cases e with
  | normal=>exact key q
  | ret=>exact key q
  | _=>exact q.elim
def AO.frz (t:Nat) (x:D):AO→AO
 | .box cs=>.box (cs.map (SV.frz t x))
 | .row e z xs=>.row e z xs
 | .raw ob=>.raw ob
def frzo (k:Nat) (o:Nat→Option AO) (t:Nat) (x:D):Nat→Option AO:=fun u=>if u=t then none else if u < k then o u else (o u).map (AO.frz t x)
theorem AO.kin_frz (t:Nat) (x:D) (y:AO):y.kin (y.frz t x):=by cases y <;> simp [AO.frz,AO.kin]
theorem frzo_some {k:Nat} {o:Nat→Option AO} {t:Nat} {x:D} {u:Nat} {y:AO} (h:frzo k o t x u=some y):u≠t∧∃ y0,o u=some y0∧(y=y0∧u < k∨y=y0.frz t x):=by
 unfold frzo at h;split at h
 ·cases h
 ·rename_i hne;split at h
  ·rename_i hlt;exact ⟨hne,y,h,.inl ⟨rfl,hlt⟩⟩
  ·obtain ⟨y0,h1,h2⟩:=Option.map_eq_some_iff.1 h;exact ⟨hne,y0,h1,.inr h2.symm⟩
theorem Sto.freezeA {w:World} {S:Nat→Prop} {γ:Nat→Value} {o:Nat→Option AO} {nk:Nat} (h:Sto w S γ o nk) (k:Nat) {t:Nat} {e:TypeId} {z:Nat} {xs:List D} (ht:o t=some (.row e z xs)) :
    Sto w (fun b=>S b∨blk (γ t)=some b) γ (frzo k o t (.sl z xs)) nk∧Tr w S γ o nk w (fun b=>S b∨blk (γ t)=some b) γ (frzo k o t (.sl z xs)) nk∧
    ∀ c v,SR w S γ o c v→c.lt nk→SR w (fun b=>S b∨blk (γ t)=some b) γ (frzo k o t (.sl z xs)) (c.frz t (.sl z xs)) v:=by
  obtain ⟨k1,k2,k3⟩:=h.freeze ht;have hup:∀ u y,u≠t→(upd o t none u=some y↔o u=some y):=fun u y hne=>by rw [upd_ne _ _ hne]
  have hkeys:∀ u y,u < nk→frzo k o t (.sl z xs) u=some y→∃ y0,upd o t none u=some y0∧AO.kin y0 y∧γ u=γ u:=by
    intro u y _ hy;obtain ⟨hne,y0,h0,h1⟩:=frzo_some hy;refine ⟨y0,(hup u y0 hne).2 h0,?_,rfl⟩;rcases h1 with ⟨rfl,_⟩ | rfl
    · exact AO.kin_refl _
    · exact AO.kin_frz _ _ _
  have hsr:∀ c v,SR w S γ o c v→c.lt nk→SR w (fun b=>S b∨blk (γ t)=some b) γ (frzo k o t (.sl z xs)) (c.frz t (.sl z xs)) v:=fun c v hr hl=>
    (hr.frz h ht hl).move (nk:=nk) (fun _ h=>h) (fun _ _=>rfl) hkeys (SV.frz_lt hl)
  have hsr0:∀ c v,SR w S γ o c v→c.lt nk→SR w (fun b=>S b∨blk (γ t)=some b) γ (frzo k o t (.sl z xs)) c v:=fun c v hr hl=>
    (hr.tr h k2 hl).move (nk:=nk) (fun _ h=>h) (fun _ _=>rfl) hkeys hl
  refine ⟨⟨k1.s_lt,?_,?_,?_,?_,?_,?_⟩,⟨rfl,rfl,rfl,Nat.le_refl _,Nat.le_refl _,fun _ _ _=>rfl,fun _ h=>.inl h,k2.s_new,?_,?_⟩,hsr⟩
  · intro u y hy;obtain ⟨hne,y0,h0,_⟩:=frzo_some hy;exact h.o_lt u y0 h0
  · intro u cs hc;obtain ⟨hne,y0,h0,h1⟩:=frzo_some hc;rcases h1 with ⟨rfl,hlt⟩ | h1
    · obtain ⟨⟨g,arr,ty,h4,h5,h6,h7⟩,hl⟩:=h.box u cs h0;exact ⟨⟨g,arr,ty,h4,h5,h6,fun i c v h8 h9=>hsr0 c v (h7 i c v h8 h9) (lts_get hl i c h8)⟩,hl⟩
    · have:∃ cs0,y0=.box cs0∧cs=cs0.map (SV.frz t (.sl z xs)):=by
        cases y0 with
        | box cs0=>simp only [AO.frz,AO.box.injEq] at h1;exact ⟨cs0,rfl,h1⟩
        | row=>simp [AO.frz] at h1
        | raw=>simp [AO.frz] at h1
      obtain ⟨cs0,rfl,rfl⟩:=this;obtain ⟨⟨g,arr,ty,h4,h5,h6,h7⟩,hl⟩:=h.box u cs0 h0;refine ⟨⟨g,arr,ty,h4,h5,by simp [h6],fun i c v h8 h9=>?_⟩,lts_of fun i c hc=>?_⟩
      · rw [List.getElem?_map] at h8;obtain ⟨c0,hc0,rfl⟩:=Option.map_eq_some_iff.1 h8;exact hsr c0 v (h7 i c0 v hc0 h9) (lts_get hl i c0 hc0)
      · rw [List.getElem?_map] at hc;obtain ⟨c0,hc0,rfl⟩:=Option.map_eq_some_iff.1 hc;exact SV.frz_lt (lts_get hl i c0 hc0)
  · intro u e' z' ys hy;obtain ⟨hne,y0,h0,h1⟩:=frzo_some hy;have:y0=.row e' z' ys:=by
      rcases h1 with ⟨h1,_⟩ | h1
      · exact h1.symm
      · cases y0 <;> simp only [AO.frz] at h1 <;> first | cases h1;rfl | cases h1
    subst this;exact k1.row u e' z' ys ((hup u _ hne).2 h0)
  · intro u ob hy;obtain ⟨hne,y0,h0,h1⟩:=frzo_some hy;have:y0=.raw ob:=by
      rcases h1 with ⟨h1,_⟩ | h1
      · exact h1.symm
      · cases y0 <;> simp only [AO.frz] at h1 <;> first | cases h1;rfl | cases h1
    subst this;exact k1.raw u ob ((hup u _ hne).2 h0)
  · intro u y g hy hg;obtain ⟨hne,y0,h0,_⟩:=frzo_some hy;exact k1.away u y0 g ((hup u y0 hne).2 h0) hg
  · intro u u' y y' g hn hy hy' hg hg';obtain ⟨hne,y0,h0,_⟩:=frzo_some hy;obtain ⟨hne',y0',h0',_⟩:=frzo_some hy';exact k1.apart u u' y0 y0' g hn ((hup u y0 hne).2 h0) ((hup u' y0' hne').2 h0') hg hg'
  · rintro g ⟨u,y,hy,hg⟩;obtain ⟨hne,y0,h0,_⟩:=frzo_some hy;exact .inr ⟨u,y0,h0,hg⟩
  · intro u y hu hy;obtain ⟨hne,y0,h0,h1⟩:=frzo_some hy;refine ⟨y0,h0,?_,rfl⟩;rcases h1 with ⟨rfl,_⟩ | rfl
    · exact AO.kin_refl _
    · exact AO.kin_frz _ _ _
theorem Rel.freezeA {E:Ent} {s:St} {a:Act} {w:World} (h:Rel E s a w) (k:Nat) {t:Nat} {e:TypeId} {z:Nat} {xs:List D} (ht:s.o t=some (.row e z xs)) :
    Rel E { sl:=fun u=>(s.sl u).frz t (.sl z xs),o:=frzo k s.o t (.sl z xs),nk:=s.nk } a w:=by
  obtain ⟨S,γ,h⟩:=h;obtain ⟨h1,h2,h3⟩:=h.sto.freezeA k ht;exact ⟨_,γ,h1,h.tr.trans h2,fun u=>h3 _ _ (h.sl u) (h.slt u),fun u=>SV.frz_lt (h.slt u),h.df,h.nn⟩
theorem WP.frzL {P:Program} {n k0:Nat} {Q:Exit→St→Prop} {c:Code} {sl:Nat→SV} {o:Nat→Option AO} {nk:Nat} (l:List (Nat×SV)) (k:Nat) {t:Nat} {e:TypeId} {z:Nat} {xs:List D} (ht:o t=some (.row e z xs))
    (hl:∀ p∈l,(sl p.1).frz t (.sl z xs)=p.2)
    (h:∀ o1,(∀ u,u≠t→u < k→o1 u=o u)→(∀ u,u≠t→k≤u→o1 u=(o u).map (AO.frz t (.sl z xs)))→WP P n k0 c ⟨al l,o1,nk⟩ Q):WP P n k0 c ⟨sl,o,nk⟩ Q:=by
  refine WP.of (fun E a w _ hr=>(hr.freezeA k ht)) (WP.le (Le.al hl) (h (frzo k o t (.sl z xs)) (fun u hu hk=>?_) fun u hu hk=>?_))
  · simp only [frzo];rw [if_neg hu,if_pos hk]
  · simp only [frzo];rw [if_neg hu,if_neg (by omega)]
theorem Sto.leBox {w:World} {S:Nat→Prop} {γ:Nat→Value} {o:Nat→Option AO} {nk:Nat} (h:Sto w S γ o nk) {b:Nat} {cs cs':List SV} (hb:o b=some (.box cs)) (hl:SV.les cs cs') :
    Sto w S γ (upd o b (some (.box cs'))) nk∧Tr w S γ o nk w S γ (upd o b (some (.box cs'))) nk∧∀ c v,SR w S γ o c v→c.lt nk→SR w S γ (upd o b (some (.box cs'))) c v:=by
  have hkeys:∀ u y,u < nk→upd o b (some (.box cs')) u=some y→∃ y0,o u=some y0∧AO.kin y0 y∧γ u=γ u:=by
    intro u y _ hy;unfold upd at hy;split at hy
    · rename_i he;subst he;injection hy with hy;subst hy;exact ⟨_,hb,trivial,rfl⟩
    · exact ⟨y,hy,AO.kin_refl _,rfl⟩
  have hsome:∀ u y,upd o b (some (.box cs')) u=some y→∃ y0,o u=some y0:=by
    intro u y hy;unfold upd at hy;split at hy
    · rename_i he;subst he;exact ⟨_,hb⟩
    · exact ⟨y,hy⟩
  have hsr:∀ c v,SR w S γ o c v→c.lt nk→SR w S γ (upd o b (some (.box cs'))) c v:=fun c v hr hlt=>hr.move (nk:=nk) (fun _ h=>h) (fun _ _=>rfl) hkeys hlt;refine ⟨⟨h.s_lt,?_,?_,?_,?_,?_,?_⟩,⟨rfl,rfl,rfl,Nat.le_refl _,Nat.le_refl _,fun _ _ _=>rfl,fun _ h=>h,fun _ h=>.inl h,?_,hkeys⟩,hsr⟩
  · intro u y hy;obtain ⟨y0,h0⟩:=hsome u y hy;exact h.o_lt u y0 h0
  · intro u ds hd;have key:∃ cs0,o u=some (.box cs0)∧SV.les cs0 ds:=by
      unfold upd at hd;split at hd
      · rename_i he;subst he;injection hd with hd;injection hd with hd;subst hd;exact ⟨cs,hb,hl⟩
      · refine ⟨ds,hd,?_⟩;clear hd
        induction ds with
        | nil=>trivial
        | cons d ds ih=>
          refine ⟨?_,ih⟩;cases d <;> first | exact D.le_refl _ | rfl
    obtain ⟨cs0,h0,h1⟩:=key;obtain ⟨⟨g,arr,ty,h4,h5,h6,h7⟩,hlt⟩:=h.box u cs0 h0;refine ⟨⟨g,arr,ty,h4,h5,by rw [h6,SV.les_length h1],fun i c v h8 h9=>?_⟩,lts_of fun i c hc=>?_⟩
    · obtain ⟨x,h10,h11⟩:=SV.les_get h1 i c h8;exact hsr c v ((h7 i x v h10 h9).le h11) (SV.le_lt h11 (lts_get hlt i x h10))
    · obtain ⟨x,h10,h11⟩:=SV.les_get h1 i c hc;exact SV.le_lt h11 (lts_get hlt i x h10)
  · intro u e z ys hy;refine h.row u e z ys ?_;unfold upd at hy;split at hy
    · cases hy
    · exact hy
  · intro u ob hy;refine h.raw u ob ?_;unfold upd at hy;split at hy
    · cases hy
    · exact hy
  · intro u y g hy hg;obtain ⟨y0,h0⟩:=hsome u y hy;exact h.away u y0 g h0 hg
  · intro u u' y y' g hn hy hy' hg hg';obtain ⟨y0,h0⟩:=hsome u y hy;obtain ⟨y0',h0'⟩:=hsome u' y' hy';exact h.apart u u' y0 y0' g hn h0 h0' hg hg'
  · rintro g ⟨u,y,hy,hg⟩;obtain ⟨y0,h0⟩:=hsome u y hy;exact .inr ⟨u,y0,h0,hg⟩
theorem WP.leB {P:Program} {n k0:Nat} {Q:Exit→St→Prop} {c:Code} {sl:Nat→SV} {o:Nat→Option AO} {nk:Nat} {b:Nat} {cs:List SV} (cs':List SV) (hb:o b=some (.box cs)) (hl:SV.les cs cs')
    (h:∀ o1,o1 b=some (.box cs')→(∀ u,u≠b→o1 u=o u)→WP P n k0 c ⟨sl,o1,nk⟩ Q):WP P n k0 c ⟨sl,o,nk⟩ Q:=by
  refine WP.of (fun E a w _ hr=>?_) (h (upd o b (some (.box cs'))) (upd_same _ _ _) fun u hu=>upd_ne _ _ hu);obtain ⟨S,γ,hr⟩:=hr;obtain ⟨h1,h2,h3⟩:=hr.sto.leBox hb hl;exact ⟨S,γ,h1,hr.tr.trans h2,fun u=>h3 _ _ (hr.sl u) (hr.slt u),hr.slt,hr.df,hr.nn⟩
theorem WP.frzC {P:Program} {n k0:Nat} {Q:Exit→St→Prop} {c:Code} {sl:Nat→SV} {o:Nat→Option AO} {nk:Nat} (l:List (Nat×SV)) (k:Nat) {b e z:Nat} {pre post:List SV} {x:SV} {q:Option Nat} {xs:List D} (hb:o b=some (.box (pre++x :: post))) (hx:dstOf o e z x=some (q,xs)) (hkb:k≤b)
    (hp:∀ t,q=some t→pre.map (SV.frz t (.sl z xs))=pre∧post.map (SV.frz t (.sl z xs))=post) (hl:∀ t,q=some t→∀ p∈l,(sl p.1).frz t (.sl z xs)=p.2) (hl0:q=none→∀ p∈l,sl p.1=p.2)
    (h:∀ o1,o1 b=some (.box (pre ++ .d (.sl z xs) :: post))→(∀ u,u < k→q≠some u→o1 u=o u)→(∀ u cs,u≠b→o u=some (.box cs)→(∀ t,q=some t→cs.map (SV.frz t (.sl z xs))=cs)→o1 u=some (.box cs))→WP P n k0 c ⟨al l,o1,nk⟩ Q):WP P n k0 c ⟨sl,o,nk⟩ Q:=by
  cases q with
  | none=>
    have hn:x=.d .nil∧xs=[]:=by
      unfold dstOf at hx;split at hx <;> first | cases hx | skip
      · exact ⟨rfl,rfl⟩
      · split at hx
        · split at hx <;> cases hx
        · cases hx
    obtain ⟨rfl,rfl⟩:=hn;have les_refl:∀ ds:List SV,SV.les ds ds:=fun ds=>by
      induction ds with
      | nil=>trivial
      | cons d ds ih=>
        refine ⟨?_,ih⟩;cases d <;> first | exact D.le_refl _ | rfl
    have hle:SV.les (pre ++ .d .nil :: post) (pre ++ .d (.sl z []) :: post):=by
      clear hb hp hl h
      induction pre with
      | nil=>exact ⟨rfl,les_refl post⟩
      | cons d ds ih=>
        refine ⟨?_,ih⟩;cases d <;> first | exact D.le_refl _ | rfl
    refine WP.le (Le.al (hl0 rfl)) (WP.leB _ hb hle fun o1 h1 h2=>h o1 h1 (fun u hu _=>h2 u (by omega)) fun u cs hu hcs _=>(h2 u hu).trans hcs)
  | some t=>
    have hn:x=.row t∧o t=some (.row e z xs):=by
      unfold dstOf at hx;split at hx <;> first | cases hx | skip
      split at hx
      · split at hx
        · rename_i h1 h2;simp only [Option.some.injEq,Prod.mk.injEq] at hx;obtain ⟨rfl,rfl⟩:=hx;obtain ⟨rfl,rfl⟩:=h2;exact ⟨rfl,h1⟩
        · cases hx
      · cases hx
    obtain ⟨rfl,ht⟩:=hn;have hbt:b≠t:=fun e=>by rw [e,ht] at hb;cases hb
    refine WP.frzL l k ht (hl t rfl) fun o1 h1 h2=>h o1 ?_ (fun u hu hq=>h1 u (fun e=>hq (by rw [e])) hu) fun u cs hu hcs hm=>?_;rotate_left
    · have hut:u≠t:=fun e=>by rw [e,ht] at hcs;cases hcs
      rcases Nat.lt_or_ge u k with hk | hk
      · rw [h1 u hut hk,hcs]
      · rw [h2 u hut hk,hcs];simp only [Option.map_some,AO.frz,hm t rfl]
    rw [h2 b hbt hkb,hb];simp only [Option.map_some,AO.frz,List.map_append,List.map_cons,(hp t rfl).1,(hp t rfl).2,SV.frz,if_true]
theorem g_stV {P:Program} {Θ:Tab} {K:SV→(Nat→Option AO)→Nat→Prop} {sl:Nat→SV} {o:Nat→Option AO} {nk:Nat} {x y:Operand} {t:Nat} {i:TI} {k g q e z:Nat} {xs:List D} {cs:List SV} (hx:ev sl x=.loc k g) (hy:ev sl y=.row q) (hq:o q=some (.row e z xs)) (hi:Θ t=some i) (hs:i.sz=1) (ho:o k=some (.box cs)) (hle:g < cs.length) (h:∀ o1,o1 k=some (.box (cs.take g++[.row q]++cs.drop (g+1)))→(∀ t,t≠k→o1 t=o t)→K .any o1 nk):vOp P Θ (.store t x y) ⟨sl,o,nk⟩ K:=by
 refine Or.inl ?_;refine ⟨i,[.row q],hi,?_,hs.symm,?_⟩
 ·show (ev sl y).cells o=_;rw [hy];simp [SV.cells,hq]
 ·show (match ev sl x with | .loc k f=>_ | _=>False);rw [hx];exact ⟨cs,ho,by simp;omega,h _ (upd_same _ _ _) fun _ ht=>upd_ne _ _ ht⟩
inductive Kd where
 | q (lo hi:Nat)
 | w (j:Nat)
 deriving DecidableEq
def ancs (ops:List Oper):Nat→List (List Nat)
 | 0=>[]
 | n+1=>ancs ops n++[match ops[n]? with
  | some o=>(onsOf o++(onsOf o).flatMap fun j=>(ancs ops n).getD j []).eraseDups
  | none=>[]]
theorem ancs_length (ops:List Oper):∀ n,(ancs ops n).length=n
 | 0=>rfl
 | n+1=>by simp [ancs,ancs_length ops n]
theorem ancs_closed {ops:List Oper} {listed:Array Bool} (hlt:∀ (i:Nat) (o:Oper),ops[i]?=some o→∀ k∈onsOf o,k < i)
    (hcl:∀ (j:Nat) (p:Oper),ops[j]?=some p→listed.getD j false=true→∀ k∈onsOf p,listed.getD k false=true) :
    ∀ n i o,i < n→ops[i]?=some o→(∀ k∈onsOf o,listed.getD k false=true)→∀ k∈(ancs ops n).getD i [],listed.getD k false=true
  | 0,i,o,h,_,_,_,_=>by omega
  | n+1,i,o,h,ho,hon,k,hk=>by
    by_cases hi:i < n
    · rw [ancs,List.getD_eq_getElem?_getD,List.getElem?_append_left (by rw [ancs_length];exact hi),← List.getD_eq_getElem?_getD] at hk;exact ancs_closed hlt hcl n i o hi ho hon k hk
    · have:i=n:=by omega
      subst this;rw [ancs,List.getD_eq_getElem?_getD,List.getElem?_append_right (by rw [ancs_length];exact Nat.le_refl _),ancs_length,Nat.sub_self,ho] at hk;simp only [List.getElem?_cons_zero,Option.getD_some,List.mem_eraseDups,List.mem_append,List.mem_flatMap] at hk;rcases hk with hk | ⟨j,hj,hk⟩
      · exact hon k hk
      · have hji:=hlt i o ho j hj;have hjl:=hon j hj;cases hp:ops[j]? with
        | none=>
          have:i < ops.length:=(List.getElem?_eq_some_iff.1 ho).1;have:=List.getElem?_eq_none_iff.1 hp;omega
        | some p=>exact ancs_closed hlt hcl i j p hji hp (hcl j p hp hjl) k hk
def ancB (ops:List Oper) (i k:Nat):Bool:=((ancs ops ops.length).getD i []).contains k
def phOk (ops:List Oper) (kd:List Kd) (wr:List Nat):Bool:=
 decide (kd.length=ops.length) && decide wr.Nodup &&
 (wr.zipIdx.all fun x=>decide (kd[x.1]?=some (.w x.2))) &&
 kd.zipIdx.all fun x=>match x.1 with
  | .q lo hi=>decide (lo≤wr.length) && !wr.contains x.2 && (wr.zipIdx.all fun y=>(!decide (y.2 < lo) || ancB ops x.2 y.1) && (!decide (hi≤y.2) || ancB ops y.1 x.2))
  | .w j=>decide (wr[j]?=some x.2) && wr.zipIdx.all fun y=>!decide (y.2 < j) || ancB ops x.2 y.1
theorem cnd_T (v:SV):cnd true v=v:=by unfold cnd;rfl
theorem cnd_F (v:SV):cnd false v=.tup []:=by unfold cnd;rfl
abbrev Ob:=(Nat→Option AO)×Nat
def allP (n:Nat) (R:Nat→Prop) (lo:Nat):Prop:=
 match n with
 | 0=>R lo
 | n+1=>R lo∧allP n R (lo+1)
theorem allP_at {R:Nat→Prop}:∀ (n lo p:Nat),allP n R lo→lo≤p→p≤lo+n→R p
 | 0,lo,p,h,h1,h2=>by
  have:p=lo:=by omega
  subst this;exact h
 | n+1,lo,p,h,h1,h2=>by
  by_cases hp:p=lo
  ·subst hp;exact h.1
  ·exact allP_at n (lo+1) p h.2 (by omega) (by omega)
def gdc (ops:Array Oper) (s:St) (g:Option (Nat×Bool)) (c:Bool):Prop:=
 match g with
 | none=>c=true
 | some (i,want)=>GC (gsl ops s i) want c
def eOp (P:Program) (Θ:Tab) (ops:Array Oper) (ph:Nat→Ob) (o:Oper) (sl:Nat→SV) (v:SV):Kd→Prop
 | .q lo hi=>allP (hi - lo) (fun p=>gOp P Θ ops o ⟨sl,(ph p).1,(ph p).2⟩ v) lo
 | .w j=>∃ c v2,gdc ops ⟨sl,(ph j).1,(ph j).2⟩ o.guard c∧(c=true→vOp P Θ o.op ⟨sl,(ph j).1,(ph j).2⟩ fun v' o' nk'=>v'=v2∧o'=(ph (j+1)).1∧nk'=(ph (j+1)).2)∧(c=false→ph (j+1)=ph j)∧v=cnd c v2
def eOps (P:Program) (Θ:Tab) (ops:Array Oper) (K:St→Prop) (ph:Nat→Ob) (m:Nat):List Oper→List Kd→(Nat→SV)→Prop
 | o :: r,k :: ks,sl=>∃ v,eOp P Θ ops ph o sl v k∧eOps P Θ ops K ph m r ks (pt sl o.dst v)
 | [],[],sl=>K ⟨sl,(ph m).1,(ph m).2⟩
 | _,_,_=>False
theorem eOps_spec {P:Program} {Θ:Tab} {ops:Array Oper} {K:St→Prop} {ph:Nat→Ob} {m:Nat}:∀ (l:List Oper) (ks:List Kd) (sl:Nat→SV),eOps P Θ ops K ph m l ks sl→
    ∃ vs:List SV,vs.length=l.length∧(∀ (i:Nat) (o:Oper) (v:SV) (k:Kd),l[i]?=some o→vs[i]?=some v→ks[i]?=some k→eOp P Θ ops ph o (slAt sl (((l.map (·.dst)).zip vs).take i)) v k)∧
      K ⟨slAt sl ((l.map (·.dst)).zip vs),(ph m).1,(ph m).2⟩
  | [],[],sl,h=>⟨[],rfl,by simp,h⟩
  | [],k :: ks,sl,h=>h.elim
  | o :: r,[],sl,h=>h.elim
  | o :: r,k :: ks,sl,h=>by
    obtain ⟨v,h1,h2⟩:=h;obtain ⟨vs,h3,h4,h5⟩:=eOps_spec r ks _ h2;refine ⟨v :: vs,by simp [h3],fun i p x q hp hx hq=>?_,h5⟩;cases i with
    | zero=>
      simp only [List.getElem?_cons_zero,Option.some.injEq] at hp hx hq;subst hp;subst hx;subst hq;exact h1
    | succ i=>exact h4 i p x q (by simpa using hp) (by simpa using hx) (by simpa using hq)
section
variable {P:Program} {Θ:Tab} {n k0:Nat} {Q:Exit→St→Prop}
theorem WP.drawnW (hΘ:TabOk P Θ) (hm:P.follows .mixedOrders=true) {sl:Nat→SV} {id:Nat} {ops:Array Oper} (kd:List Kd) (wr:List Nat) (ph:Nat→Ob) (hd:(ops.toList.all fun o=>dstOk n o.dst)=true) (hflow:flowOk ops=true) (hph:phOk ops.toList kd wr=true)
    (h:eOps P Θ ops (Q .normal) ph wr.length ops.toList kd sl):WP P n k0 (.region id ops true) ⟨sl,(ph 0).1,(ph 0).2⟩ Q:=by
  intro E a w e1 e2 hrel;refine wp_region_any hm ?_;obtain ⟨vs,hvl,hop,hfin⟩:=eOps_spec _ _ _ h;generalize hprs:(ops.toList.map (·.dst)).zip vs=prs at hop hfin;simp only [phOk,Bool.and_eq_true,decide_eq_true_eq] at hph;obtain ⟨⟨⟨hkl,hnd⟩,hwk⟩,hkd⟩:=hph;have hwk':∀ j i,wr[j]?=some i→kd[i]?=some (Kd.w j):=fun j i hj=>by
    have:=List.all_eq_true.1 hwk (i,j) (by rw [List.mem_zipIdx_iff_getElem?];exact hj);simpa using this
  have hget:∀ (j:Nat) (o:Oper),ops[j]?=some o→∃ v,vs[j]?=some v∧prs[j]?=some (o.dst,v):=fun j o hj=>by
    have hlt:j < ops.size:=(Array.getElem?_eq_some_iff.1 hj).1;have hv:vs[j]?=some (vs[j]'(by rw [hvl];simpa using hlt)):=List.getElem?_eq_getElem _;refine ⟨_,hv,?_⟩;rw [← hprs,List.getElem?_zip_eq_some];refine ⟨?_,hv⟩;rw [List.getElem?_map];have:ops.toList[j]?=some o:=by simpa using hj
    rw [this];rfl
  have hback:∀ (j:Nat) (d:Option Nat) (v:SV),prs[j]?=some (d,v)→∃ o,ops[j]?=some o∧o.dst=d∧vs[j]?=some v:=fun j d v hj=>by
    rw [← hprs,List.getElem?_zip_eq_some,List.getElem?_map] at hj;obtain ⟨h1,h2⟩:=hj;obtain ⟨o,ho,rfl⟩:=Option.map_eq_some_iff.1 h1;exact ⟨o,by simpa using ho,rfl,h2⟩
  have huniq:Uniq prs:=fun i j u v x hi hj=>by
    obtain ⟨o,ho,hod,_⟩:=hback i _ v hi;obtain ⟨p,hp,hpd,_⟩:=hback j _ x hj;have:=(flow_spec hflow ho).2 j p hp;simp only [flowAt,hpd,Bool.and_eq_true,Bool.or_eq_true,beq_iff_eq] at this;rcases this.1 with h1 | h1
    · exact h1
    · simp [hod] at h1
  have hons:∀ {o:Oper} {e:Edge},e∈o.after→Region.binds .any e=true→e.on∈onsOf o:=fun {o e} he hb=>by
    simp only [onsOf,List.mem_map,List.mem_filter];exact ⟨e,⟨by simpa using he,hb⟩,rfl⟩
  have hons':∀ {o:Oper} {j:Nat},j∈onsOf o→∃ e∈o.after,Region.binds .any e=true∧e.on=j:=fun {o j} hj=>by
    simp only [onsOf,List.mem_map,List.mem_filter] at hj;obtain ⟨e,⟨h1,h2⟩,h3⟩:=hj;exact ⟨e,by simpa using h1,h2,h3⟩
  have honlt:∀ (i:Nat) (o:Oper),ops.toList[i]?=some o→∀ k∈onsOf o,k < i:=fun i o ho=>(flow_spec hflow (by simpa using ho)).1;have hsl:∀ (listed:Array Bool) (i:Nat) (o:Oper),(∀ (j:Nat) (p:Oper),ops[j]?=some p→listed.getD j false=true→∀ k∈onsOf p,listed.getD k false=true)→
      ops[i]?=some o→listed.getD i true=false→(∀ k∈onsOf o,listed.getD k false=true)→∀ u∈o.looksAt ops,slAt sl (prs.take i) u=slL sl prs listed u:=by
    intro listed i o hcl ho hi hon u hu;by_cases hex:∃ (j:Nat) (x:SV),prs[j]?=some (some u,x)
    · obtain ⟨j,x,hj⟩:=hex;obtain ⟨p,hp,hpd,_⟩:=hback j _ x hj;have hfl:=(flow_spec hflow ho).2 j p hp;have hlook:(o.looksAt ops).contains u=true:=by simpa using hu
      simp only [flowAt,hpd,Bool.and_eq_true,Bool.or_eq_true,beq_iff_eq,hlook,Bool.not_true,Bool.false_eq_true,false_or,decide_eq_true_eq,List.contains_eq_mem] at hfl;rcases hfl.2 with ⟨h1,h2⟩ | ⟨h1,h2⟩
      · rw [slL_hit huniq hj (hon j h2)];refine slAt_hit _ _ j (by rw [List.getElem?_take,if_pos h1];exact hj) fun k y hk=>?_;rw [List.getElem?_take] at hk;split at hk
        · exact huniq k j u y x hk hj
        · cases hk
      · rw [slAt_miss,slL_miss]
        · intro k y hk hl;have:=huniq k j u y x hk hj;subst this;have:=hcl k p hp hl i h2;have hif:listed.getD i false=false:=by
            rcases Nat.lt_or_ge i listed.size with h' | h'
            · simp [h'] at hi ⊢;exact hi
            · simp [Array.getElem?_eq_none h'] at hi
          rw [hif] at this;cases this
        · intro y hy;obtain ⟨k,hk⟩:=List.getElem?_of_mem hy;rw [List.getElem?_take] at hk;split at hk
          · have:=huniq k j u y x hk hj;omega
          · cases hk
    · rw [slAt_miss,slL_miss]
      · exact fun k y hk _=>hex ⟨k,y,hk⟩
      · intro y hy;obtain ⟨k,hk⟩:=List.getElem?_of_mem (List.mem_of_mem_take hy);exact hex ⟨k,y,hk⟩
  have hall:∀ listed:Array Bool,(∀ i,i < ops.size→listed.getD i true=true)→slL sl prs listed=slAt sl prs∨ops.size > listed.size:=by
    intro listed hL;rcases Nat.lt_or_ge listed.size ops.size with h' | h'
    · exact .inr h'
    · left;funext u;by_cases hex:∃ (j:Nat) (x:SV),prs[j]?=some (some u,x)
      · obtain ⟨j,x,hj⟩:=hex;obtain ⟨p,hp,_,_⟩:=hback j _ x hj;have hlt:j < ops.size:=(Array.getElem?_eq_some_iff.1 hp).1;rw [slL_hit huniq hj,slAt_hit _ _ j hj fun k y hk=>huniq k j u y x hk hj];have:=hL j hlt;have hlt':j < listed.size:=by omega
        simp [hlt'] at this ⊢;exact this
      · rw [slAt_miss,slL_miss]
        · exact fun k y hk _=>hex ⟨k,y,hk⟩
        · intro y hy;obtain ⟨k,hk⟩:=List.getElem?_of_mem hy;exact hex ⟨k,y,hk⟩
  have hwlt:∀ j i,wr[j]?=some i→i < ops.size:=fun j i hj=>by
    have:=(List.getElem?_eq_some_iff.1 (hwk' j i hj)).1;rw [hkl] at this;simpa using this
  have main:∀ (fuel:Nat) (listed:Array Bool) (p:Nat) (a:Act) (w:World),listed.size=ops.size→unl listed ops.size≤fuel→p≤wr.length→(∀ j i,wr[j]?=some i→(listed.getD i false=true↔j < p))→
      (∀ (j:Nat) (p:Oper),ops[j]?=some p→listed.getD j false=true→∀ k∈onsOf p,listed.getD k false=true)→
      Rel E ⟨slL sl prs listed,(ph p).1,(ph p).2⟩ a w→
      wpAny P .any ops (fun e a' w'=>∃ s',Rel E s' a' w'∧Q e s') fuel listed a w:=by
    intro fuel;have hdone:∀ (listed:Array Bool) (p:Nat) (a:Act) (w:World),listed.size=ops.size→p≤wr.length→(∀ j i,wr[j]?=some i→(listed.getD i false=true↔j < p))→
        (∀ i,i < ops.size→listed.getD i true=true)→Rel E ⟨slL sl prs listed,(ph p).1,(ph p).2⟩ a w→∃ s',Rel E s' a w∧Q .normal s':=by
      intro listed p a w hsz hp hwp hL hr;have hpe:p=wr.length:=by
        by_cases h:p < wr.length
        · have h1:=hwp p wr[p] (List.getElem?_eq_getElem h);have h2:=hL wr[p] (hwlt p _ (List.getElem?_eq_getElem h));have h3:listed.getD wr[p] false=true:=by
            have:wr[p] < listed.size:=by rw [hsz];exact hwlt p _ (List.getElem?_eq_getElem h)
            simp [this] at h2 ⊢;exact h2
          have:=h1.1 h3;omega
        · omega
      subst hpe;refine ⟨_,hr,?_⟩;rcases hall listed hL with h1 | h1
      · rw [h1];exact hfin
      · omega
    induction fuel with
    | zero=>
      intro listed p a w hsz hun hp hwp hcl hr;have hL:=unl_zero ops.size (by omega) (listed:=listed);obtain ⟨s',h1,h2⟩:=hdone listed p a w hsz hp hwp hL hr;refine ⟨?_,s',h1,h2⟩;rw [List.eq_nil_iff_forall_not_mem];intro i hi;rw [mem_ready] at hi;obtain ⟨h0,o,ho,_⟩:=hi;have:=hL i (Array.getElem?_eq_some_iff.1 ho).1;rw [this] at h0;cases h0
    | succ fuel ih=>
      intro listed p a w hsz hun hp hwp hcl hr;refine ⟨fun hnil=>?_,fun i hi=>?_⟩
      · have hL:∀ i,i < ops.size→listed.getD i true=true:=by
          intro i
          induction i using Nat.strongRecOn with
          | _ i ihi=>
            intro hlt;by_cases hl:listed.getD i true=true
            · exact hl
            · exfalso;simp only [Bool.not_eq_true] at hl;have hmem:i∈Region.ready .any ops listed:=by
                rw [mem_ready];refine ⟨hl,ops[i],by simp [hlt],fun e he hb=>?_⟩;have hlt2:=(flow_spec hflow (i:=i) (o:=ops[i]) (by simp [hlt])).1 e.on (hons he hb);have:=ihi e.on hlt2 (by omega);have hlt3:e.on < listed.size:=by omega
                simp [hlt3] at this ⊢;exact this
              rw [hnil] at hmem;cases hmem
        exact hdone listed p a w hsz hp hwp hL hr
      · have hi':=hi;rw [mem_ready] at hi';obtain ⟨h0,o,ho,hon⟩:=hi';have hilt:i < ops.size:=(Array.getElem?_eq_some_iff.1 ho).1;have h0f:listed.getD i false=false:=by
          have:i < listed.size:=by omega
          simp [this] at h0 ⊢;exact h0
        obtain ⟨v,hv,hpv⟩:=hget i o ho;have hon':∀ k∈onsOf o,listed.getD k false=true:=fun k hk=>by
          obtain ⟨e,h1,h2,rfl⟩:=hons' hk;exact hon e h1 h2
        have hcl':∀ (j:Nat) (p:Oper),ops.toList[j]?=some p→listed.getD j false=true→∀ k∈onsOf p,listed.getD k false=true:=fun j p hj=>hcl j p (by simpa using hj);have hanc:∀ k,ancB ops.toList i k=true→listed.getD k false=true:=fun k hk=>by
          refine ancs_closed honlt hcl' ops.toList.length i o (by simpa using hilt) (by simpa using ho) hon' k ?_;simpa [ancB] using hk
        have hancw:∀ (j x:Nat),ancB ops.toList j x=true→listed.getD j false=true→listed.getD x false=true:=fun j x hx hj=>by
          cases hq:ops[j]? with
          | none=>
            have:listed.getD j false=false:=by
              have:=Array.getElem?_eq_none_iff.1 hq;have:¬ j < listed.size:=by omega
              simp [this]
            rw [this] at hj;cases hj
          | some q=>
            refine ancs_closed honlt hcl' ops.toList.length j q (by simpa using (Array.getElem?_eq_some_iff.1 hq).1) (by simpa using hq) (hcl j q hq hj) x ?_;simpa [ancB] using hx
        obtain ⟨k,hk⟩:∃ k,kd[i]?=some k:=⟨kd[i]'(by rw [hkl];simpa using hilt),List.getElem?_eq_getElem _⟩;have hkd':=List.all_eq_true.1 hkd (k,i) (by rw [List.mem_zipIdx_iff_getElem?];exact hk);have he:=hop i o v k (by simpa using ho) hv hk;have hdo:dstOk E.n o.dst=true:=by
          rw [e1];exact List.all_eq_true.1 hd o (by
            have:ops.toList[i]?=some o:=by simpa using ho
            exact List.mem_of_getElem? this)
        have hpt:slL sl prs (listed.setIfInBounds i true)=pt (slL sl prs listed) o.dst v:=by
          have hli:(listed.setIfInBounds i true).getD i false=true:=by
            have:i < listed.size:=by rw [hsz];exact hilt
            simp [this]
          have hlf:∀ j,j≠i→(listed.setIfInBounds i true).getD j false=listed.getD j false:=fun j hj=>getD_set_ne false (Ne.symm hj);funext u;by_cases hex:∃ (j:Nat) (x:SV),prs[j]?=some (some u,x)
          · obtain ⟨j,x,hj⟩:=hex;by_cases hji:j=i
            · subst hji;rw [hj] at hpv;simp only [Option.some.injEq,Prod.mk.injEq] at hpv;obtain ⟨h1,h2⟩:=hpv;rw [slL_hit huniq hj hli,← h1,h2];exact (upd_same _ _ _).symm
            · have hne:o.dst≠some u:=fun e=>hji (huniq j i u x v hj (by rw [hpv,e]));have hp:pt (slL sl prs listed) o.dst v u=slL sl prs listed u:=by
                cases hod:o.dst with
                | none=>rfl
                | some d=>exact upd_ne _ _ fun e=>hne (by rw [hod,e])
              rw [hp];by_cases hl:listed.getD j false=true
              · rw [slL_hit huniq hj hl,slL_hit huniq hj (by rw [hlf j hji];exact hl)]
              · rw [slL_miss,slL_miss]
                · intro k y hk hlk;have:=huniq k j u y x hk hj;subst this;exact hl hlk
                · intro k y hk hlk;have:=huniq k j u y x hk hj;subst this;rw [hlf k hji] at hlk;exact hl hlk
          · have hne:o.dst≠some u:=fun e=>hex ⟨i,v,by rw [hpv,e]⟩;have hp:pt (slL sl prs listed) o.dst v u=slL sl prs listed u:=by
              cases hod:o.dst with
              | none=>rfl
              | some d=>exact upd_ne _ _ fun e=>hne (by rw [hod,e])
            rw [hp,slL_miss,slL_miss]
            · exact fun k y hk _=>hex ⟨k,y,hk⟩
            · exact fun k y hk _=>hex ⟨k,y,hk⟩
        have hcl2:∀ (j:Nat) (p:Oper),ops[j]?=some p→(listed.setIfInBounds i true).getD j false=true→∀ k∈onsOf p,(listed.setIfInBounds i true).getD k false=true:=by
          intro j p hj hl k hk;by_cases hji:j=i
          · subst hji;rw [ho] at hj;simp only [Option.some.injEq] at hj;subst hj;exact getD_set_true (hon' k hk)
          · rw [getD_set_ne false (Ne.symm hji)] at hl;exact getD_set_true (hcl j p hj hl k hk)
        have hun2:unl (listed.setIfInBounds i true) ops.size≤fuel:=by
          have:=unl_set h0 ops.size;rw [if_pos hilt] at this;omega
        have hseti:(listed.setIfInBounds i true).getD i false=true:=by
          have:i < listed.size:=by rw [hsz];exact hilt
          simp [this]
        show wpOp P ops _ i _ a w;unfold wpOp;rw [ho];simp only;cases k with
        | q lo hi=>
          simp only [Bool.and_eq_true,decide_eq_true_eq,Bool.not_eq_true'] at hkd';obtain ⟨⟨hlo,hnw⟩,hky⟩:=hkd';have hni:∀ j,wr[j]?≠some i:=fun j hj=>by
            have:wr.contains i=true:=by simpa using List.mem_of_getElem? hj
            rw [hnw] at this;cases this
          have hky':∀ j x,wr[j]?=some x→(j < lo→ancB ops.toList i x=true)∧(hi≤j→ancB ops.toList x i=true):=fun j x hj=>by
            have:=List.all_eq_true.1 hky (x,j) (by rw [List.mem_zipIdx_iff_getElem?];exact hj);simp only [Bool.and_eq_true,Bool.or_eq_true,Bool.not_eq_true',decide_eq_false_iff_not] at this;exact ⟨fun h=>this.1.resolve_left fun h'=>h' h,fun h=>this.2.resolve_left fun h'=>h' h⟩
          have hplo:lo≤p:=by
            rcases Nat.lt_or_ge p lo with h | h
            · have hlt:p < wr.length:=by omega
              have hw:=List.getElem?_eq_getElem hlt;have h1:=hanc _ ((hky' p _ hw).1 h);have:=(hwp p _ hw).1 h1;omega
            · exact h
          have hphi:p≤hi:=by
            rcases Nat.lt_or_ge hi p with h | h
            · have hlt:hi < wr.length:=by omega
              have hw:=List.getElem?_eq_getElem hlt;have h1:=(hwp hi _ hw).2 h;have h2:=hancw _ _ ((hky' hi _ hw).2 (Nat.le_refl _)) h1;rw [h0f] at h2;cases h2
            · exact h
          have hg0:=allP_at (hi - lo) lo p he hplo (by omega);have hg:gOp P Θ ops o ⟨slL sl prs listed,(ph p).1,(ph p).2⟩ v:=gOp_congr (s:=⟨slAt sl (prs.take i),(ph p).1,(ph p).2⟩) (fun u hu=>hsl listed i o hcl ho h0 hon' u hu) rfl rfl hg0;have hstep:=g_step (Q:=fun e a' w'=>∃ s',Rel E s' a' w'∧Q e s') (next:=wpAny P .any ops (fun e a' w'=>∃ s',Rel E s' a' w'∧Q e s') fuel (listed.setIfInBounds i true)) hΘ hr hdo hg (fun a' w' hr'=>by
            refine ih _ p a' w' (by simpa using hsz) hun2 hp (fun j x hj=>?_) hcl2 (by rw [hpt];exact hr');have hne:x≠i:=fun e=>hni j (by rw [hj,e]);rw [getD_set_ne false (Ne.symm hne)];exact hwp j x hj)
          split
          · rename_i hw;rw [if_pos hw] at hstep;exact .inl hstep
          · rename_i hw;rw [if_neg hw] at hstep;exact hstep
        | w j=>
          simp only [Bool.and_eq_true,decide_eq_true_eq] at hkd';obtain ⟨hwj,hky⟩:=hkd';have hky':∀ j' x,wr[j']?=some x→j' < j→ancB ops.toList i x=true:=fun j' x hj hlt=>by
            have:=List.all_eq_true.1 hky (x,j') (by rw [List.mem_zipIdx_iff_getElem?];exact hj);simp only [Bool.or_eq_true,Bool.not_eq_true',decide_eq_false_iff_not] at this;exact this.resolve_left fun h'=>h' hlt
          have hjlt:j < wr.length:=(List.getElem?_eq_some_iff.1 hwj).1;have hpj:p=j:=by
            have h1:¬ j < p:=fun h=>by
              have:=(hwp j i hwj).2 h;rw [h0f] at this;cases this
            rcases Nat.lt_or_ge p j with h | h
            · have hlt:p < wr.length:=by omega
              have hw:=List.getElem?_eq_getElem hlt;have:=(hwp p _ hw).1 (hanc _ (hky' p _ hw h));omega
            · omega
          subst hpj;obtain ⟨c,v2,hgc,hvo,hsame,rfl⟩:=he;have hgc2:gdc ops ⟨slL sl prs listed,(ph p).1,(ph p).2⟩ o.guard c:=by
            unfold gdc at hgc ⊢;split at hgc
            · exact hgc
            · rename_i j want hg;have hgs:gsl ops ⟨slL sl prs listed,(ph p).1,(ph p).2⟩ j=gsl ops ⟨slAt sl (prs.take i),(ph p).1,(ph p).2⟩ j:=by
                unfold gsl;split
                · rename_i d hd;refine (hsl listed i o hcl ho h0 hon' d ?_).symm;simp only [Oper.looksAt,List.mem_append,List.mem_filterMap];right;rw [hg];simp [hd]
                · rfl
              rw [hgs];exact hgc
          have hlast:∀ (a':Act) (w':World),Rel E { sl:=pt (slL sl prs listed) o.dst (cnd c v2),o:=(ph (p+1)).1,nk:=(ph (p+1)).2 } a' w'→wpAny P .any ops (fun e a' w'=>∃ s',Rel E s' a' w'∧Q e s') fuel (listed.setIfInBounds i true) a' w':=by
            intro a' w' hr';refine ih _ (p+1) a' w' (by simpa using hsz) hun2 (by omega) (fun j x hj=>?_) hcl2 (by rw [hpt];exact hr');by_cases hx:x=i
            · subst hx;have hjp:j=p:=by
                obtain ⟨h1a,h1b⟩:=List.getElem?_eq_some_iff.1 hj;obtain ⟨h2a,h2b⟩:=List.getElem?_eq_some_iff.1 hwj;rcases Nat.lt_trichotomy j p with hlt | heq | hgt
                · exact absurd (h1b.trans h2b.symm) ((List.pairwise_iff_getElem.1 hnd) j p h1a h2a hlt)
                · exact heq
                · exact absurd (h2b.trans h1b.symm) ((List.pairwise_iff_getElem.1 hnd) p j h2a h1a hgt)
              rw [hseti,hjp];simp
            · rw [getD_set_ne false (Ne.symm hx),hwp j x hj];have:j≠p:=fun e=>hx (by
                subst e;rw [hwj] at hj;exact (Option.some.inj hj).symm)
              omega
          have hwant:Region.wanted o (yielded ops a.tmps)=c:=by
            unfold gdc at hgc2;unfold Region.wanted;split at hgc2
            · rename_i hg;rw [hg];exact hgc2.symm
            · rename_i j want hg;rw [hg];exact guard_yield hr hgc2
          cases c with
          | true=>
            have hvo2:=vOp_congr (s:=⟨slAt sl (prs.take i),(ph p).1,(ph p).2⟩) (s':=⟨slL sl prs listed,(ph p).1,(ph p).2⟩) (fun x hx=>by
              cases x with
              | tmp t=>
                refine hsl listed i o hcl ho h0 hon' t ?_;simp only [Oper.looksAt,List.mem_append,List.mem_filterMap];exact .inl ⟨.tmp t,by simpa using hx,rfl⟩
              | _=>rfl) rfl rfl (hvo rfl)
            rw [if_pos hwant];refine .inl (op_step hΘ hr hdo hvo2 ?_);rintro v' o' nk' a' w' ⟨rfl,rfl,rfl⟩ hr';exact hlast a' w' (by rw [cnd_T];exact hr')
          | false=>
            rw [if_neg (by rw [hwant];simp)];obtain ⟨S,γ,hr⟩:=hr;refine hlast _ _ ?_;rw [hsame rfl,cnd_F];exact ⟨S,γ,hr.put hdo hr.sto (Tr.refl _ _ _ _ _) (.tup [] [] rfl (by simp)) trivial⟩
  refine main ops.size _ 0 a _ (by simp) ?_ (Nat.zero_le _) ?_ ?_ ?_
  · have:∀ m,unl (Array.replicate ops.size false) m≤m:=by
      intro m
      induction m with
      | zero=>simp [unl]
      | succ m ih=>simp only [unl];split <;> omega
    exact this _
  · intro j i _;simp only [Nat.not_lt_zero,iff_false];intro hl;simp only [Array.getD_eq_getD_getElem?,Array.getElem?_replicate] at hl;split at hl <;> simp at hl
  · intro j p hj hl;simp only [Array.getD_eq_getD_getElem?,Array.getElem?_replicate] at hl;split at hl <;> simp at hl
  · obtain ⟨S,γ,hr⟩:=hrel;obtain ⟨m1,m2⟩:=hr.sto.more (w':={ w with drawn:=w.drawn+1 }) (fun _=>False) (fun _ h=>h.elim) rfl rfl rfl (Nat.le_refl _) (fun _ _=>rfl);have hsl:slL sl prs (Array.replicate ops.size false)=sl:=by
      funext u;refine slL_miss fun j v _ hl=>?_;simp only [Array.getD_eq_getD_getElem?,Array.getElem?_replicate] at hl;split at hl <;> simp at hl
    rw [hsl];exact ⟨_,γ,m1,hr.tr.trans m2,fun u=>(hr.sl u).tr hr.sto m2 (hr.slt u),hr.slt,hr.df,hr.nn⟩
end
def pho (l:List Ob):Nat→Ob:=fun p=>(l[p]?).getD (fun _=>none,0)
section
variable {P:Program} {Θ:Tab} {n k0:Nat} {Q:Exit→St→Prop}
theorem WP.dr1 {sl:Nat→SV} {o:Nat→Option AO} {nk:Nat} {id:Nat} {l:List Oper} (kd:List Kd) (wr:List Nat) (n1:Nat) (hΘ:TabOk P Θ) (hm:P.follows .mixedOrders=true) (hd:(l.all fun o=>dstOk n o.dst)=true) (hf:flowOk l.toArray=true) (hp:phOk l kd wr=true)
    (h:∃ o1:Nat→Option AO,eOps P Θ l.toArray (Q .normal) (pho [(o,nk),(o1,n1)]) wr.length l kd sl):WP P n k0 (.region id l.toArray true) ⟨sl,o,nk⟩ Q:=by
  obtain ⟨o1,h⟩:=h;exact WP.drawnW (ops:=l.toArray) hΘ hm kd wr _ (by simpa using hd) hf (by simpa using hp) (by simpa using h)
theorem WP.dr2 {sl:Nat→SV} {o:Nat→Option AO} {nk:Nat} {id:Nat} {l:List Oper} (kd:List Kd) (wr:List Nat) (n1 n2:Nat) (hΘ:TabOk P Θ) (hm:P.follows .mixedOrders=true) (hd:(l.all fun o=>dstOk n o.dst)=true) (hf:flowOk l.toArray=true) (hp:phOk l kd wr=true)
    (h:∃ o1 o2:Nat→Option AO,eOps P Θ l.toArray (Q .normal) (pho [(o,nk),(o1,n1),(o2,n2)]) wr.length l kd sl):WP P n k0 (.region id l.toArray true) ⟨sl,o,nk⟩ Q:=by
  obtain ⟨o1,o2,h⟩:=h;exact WP.drawnW (ops:=l.toArray) hΘ hm kd wr _ (by simpa using hd) hf (by simpa using hp) (by simpa using h)
end
def Qsc (Q:Exit→St→Prop):Exit→St→Prop
 | .goto _,_=>False
 | e,s=>Q e s
theorem WP.scope {P:Program} {n k0:Nat} {s:St} {Q:Exit→St→Prop} {c:Code} (h:WP P n k0 c s (Qsc Q)):WP P n k0 (.scope c) s Q:=fun E a w h1 h2 h3=>by
 refine wp_scope_straight (Go.wp_mono (h E a w h1 h2 h3) ?_);rintro e a' w' ⟨s',hr,q⟩;cases e <;> first | exact q.elim | exact ⟨s',hr,q⟩
section
variable {P:Program} {Θ:Tab} {ops:Array Oper} {K:St→Prop} {r:List Oper} {sl:Nat→SV} {d ty j lo m nk nk':Nat} {o o':Nat→Option AO} {op:Op} {pos:String} {af:Array Edge} {want c:Bool} {v:SV} {L:List Ob} {ks:List Kd}
theorem pho_at {p:Nat} (h:L[p]?=some (o,nk)):pho L p=(o,nk):=by simp [pho,h]
theorem e_step (h0:L[lo]?=some (o,nk)) (h:vOp P Θ op ⟨sl,o,nk⟩ fun v' o' nk'=>v'=v∧o'=o∧nk'=nk) (k:eOps P Θ ops K (pho L) m r ks (upd sl d v)) :
    eOps P Θ ops K (pho L) m ({ dst:=some d,op:=op,type:=ty,pos:=pos,after:=af,guard:=none } :: r) (.q lo lo :: ks) sl:=by
  refine ⟨v,?_,k⟩;show allP (lo - lo) _ lo;rw [Nat.sub_self];simp only [allP,pho_at h0];exact h
theorem e_step2 (h0:L[lo]?=some (o,nk)) (h1:L[lo+1]?=some (o',nk')) (h:vOp P Θ op ⟨sl,o,nk⟩ fun v' o'' nk''=>v'=v∧o''=o∧nk''=nk) (h2:vOp P Θ op ⟨sl,o',nk'⟩ fun v' o'' nk''=>v'=v∧o''=o'∧nk''=nk') (k:eOps P Θ ops K (pho L) m r ks (upd sl d v)) :
    eOps P Θ ops K (pho L) m ({ dst:=some d,op:=op,type:=ty,pos:=pos,after:=af,guard:=none } :: r) (.q lo (lo+1) :: ks) sl:=by
  refine ⟨v,?_,k⟩;show allP (lo+1 - lo) _ lo;rw [Nat.add_sub_cancel_left];simp only [allP,pho_at h0,pho_at h1];exact ⟨h,h2⟩
theorem e_w (h0:L[j]?=some (o,nk)) (h1:L[j+1]?=some (o',nk')) (h:vOp P Θ op ⟨sl,o,nk⟩ fun v' o'' nk''=>v'=v∧o''=o'∧nk''=nk') (k:eOps P Θ ops K (pho L) m r ks (upd sl d v)) :
    eOps P Θ ops K (pho L) m ({ dst:=some d,op:=op,type:=ty,pos:=pos,after:=af,guard:=none } :: r) (.w j :: ks) sl:=by
  refine ⟨v,⟨true,v,rfl,fun _=>?_,fun e=>(by cases e),(cnd_T v).symm⟩,k⟩;rw [pho_at h0,pho_at h1];exact h
theorem e_w0 (h0:L[j]?=some (o,nk)) (h1:L[j+1]?=some (o',nk')) (h:vOp P Θ op ⟨sl,o,nk⟩ fun v' o'' nk''=>v'=v∧o''=o'∧nk''=nk') (k:eOps P Θ ops K (pho L) m r ks sl) :
    eOps P Θ ops K (pho L) m ({ dst:=none,op:=op,type:=ty,pos:=pos,after:=af,guard:=none } :: r) (.w j :: ks) sl:=by
  refine ⟨v,⟨true,v,rfl,fun _=>?_,fun e=>(by cases e),(cnd_T v).symm⟩,k⟩;rw [pho_at h0,pho_at h1];exact h
theorem e_nil (h0:L[m]?=some (o,nk)) (h:∀ o1,(∀ t,o1 t=o t)→K ⟨sl,o1,nk⟩):eOps P Θ ops K (pho L) m [] [] sl:=by
 show K ⟨sl,(pho L m).1,(pho L m).2⟩;rw [pho_at h0];exact h _ fun _=>rfl
end
section
variable {P:Program} {Θ:Tab} {K:SV→(Nat→Option AO)→Nat→Prop} {sl:Nat→SV} {o:Nat→Option AO} {nk:Nat} {x y ix:Operand} {t e f:Nat} {a b:D}
theorem w_apD {i j:TI} {l xs ys:List D} {q:Option Nat} {z:Nat} (hy:ev sl y=.d (.sl z ys)) (hi:Θ t=some i) (hk:i.k=.slice e) (hj:Θ e=some j) (hz:j.z=some l) (hl:l.length=j.sz) (hpos:0 < j.sz) (hzz:z=j.sz) (hd:dstOf o e j.sz (ev sl x)=some (q,xs))
    (h63:xs.length+ys.length≤9223372036854775807) (hby:(xs.length+ys.length) * j.bys≤140737488355328) (h:K (.row nk) (upd (killo o q) nk (some (.row e j.sz (xs++ys)))) (nk+1)):vOp P Θ (.call { callee:=.builtin .append,args:=#[x,y],argTypes:=#[t,t] }) ⟨sl,o,nk⟩ K:=
  o_ap (q:=q) hi hk hj hz hl hpos hd (by rw [hy];exact sl_nstr) (by rw [hy];simp [srcOf,hzz]) h63 hby h
theorem w_stV {i:TI} {k g q e z:Nat} {xs:List D} {cs:List SV} (hx:ev sl x=.loc k g) (hy:ev sl y=.row q) (hq:o q=some (.row e z xs)) (hi:Θ t=some i) (hs:i.sz=1) (ho:o k=some (.box cs)) (hle:g < cs.length) (h:K .any (upd o k (some (.box (cs.take g++[.row q]++cs.drop (g+1))))) nk):vOp P Θ (.store t x y) ⟨sl,o,nk⟩ K:=by
 refine Or.inl ?_;refine ⟨i,[.row q],hi,?_,hs.symm,?_⟩
 ·show (ev sl y).cells o=_;rw [hy];simp [SV.cells,hq]
 ·show (match ev sl x with | .loc k f=>_ | _=>False);rw [hx];exact ⟨cs,ho,by simp;omega,h⟩
end
theorem killo_ne {o:Nat→Option AO} {q:Option Nat} {t:Nat} (h:q≠some t):killo o q t=o t:=by
 cases q with
 | none=>rfl
 | some u=>exact upd_ne _ _ fun e=>h (by rw [e])
theorem dst_keep {o o':Nat→Option AO} {e z:Nat} {c:SV} {q:Option Nat} {xs:List D} (hd:dstOf o e z c=some (q,xs)) (h:∀ t,q=some t→o' t=o t):dstOf o' e z c=some (q,xs):=by
 unfold dstOf at hd ⊢;split at hd
 ·exact hd
 ·rename_i t;have hq:q=some t:=by
   split at hd
   ·split at hd
    ·simp only [Option.some.injEq,Prod.mk.injEq] at hd;exact hd.1.symm
    ·cases hd
   ·cases hd
  rw [h t hq];exact hd
 ·cases hd
theorem PSpec.leT {P:Program} {f:FuncId} {args:List SV} {xs ys:List D} (h:PSpec P f args (.tup (xs.map .d))) (hl:D.les xs ys):PSpec P f args (.tup (ys.map .d)):=fun o nk w S γ vs h1 h2 h3 h4=>by
 refine (h o nk w S γ vs h1 h2 h3 h4).mono ?_;rintro v w' ⟨r,o',nk',S',γ',⟨rfl,rfl,rfl⟩,hs,ht,hr,hlt⟩;cases hr with
 | tup _ us hv hrs=>
  refine ⟨.tup (ys.map .d),_,_,S',γ',⟨rfl,rfl,rfl⟩,hs,ht,.tup _ us (by rw [hv,List.length_map,List.length_map,D.les_length hl]) fun i c v hc hv=>?_,lts_of fun i c hc=>?_⟩
  ·rw [List.getElem?_map] at hc;obtain ⟨y,hy,rfl⟩:=Option.map_eq_some_iff.1 hc;obtain ⟨x,hx,hxy⟩:=D.les_get hl i y hy;have:=hrs i (.d x) v (by rw [List.getElem?_map,hx];rfl) hv;cases this with
   | d _ _ hrd=>exact .d _ _ (hrd.le hxy)
  ·rw [List.getElem?_map] at hc;obtain ⟨y,hy,rfl⟩:=Option.map_eq_some_iff.1 hc;trivial
theorem PSpec.ofC1 {P:Program} {Θ:Tab} (hΘ:TabOk P Θ) {f:FuncId} {n:Nat} {rs:List ResultVar} {c:Code} {args:List SV} {x:D} (hf:FnOkC P f n rs c) (hn:args.length≤n)
    (h:∀ o nk,WP P n nk c ⟨slots args,o,nk⟩ (retC Θ rs fun r o' nk'=>r=.d x∧nk≤nk'∧∀ t,t < nk→o' t=o t)):PSpec P f args (.d x):=fun o nk=>
  Spec.pure (fun _=>trivial) rfl (Spec.of_bodyC hΘ hf hn (h o nk))
theorem resis_agg {Θ:Tab} {sl:Nat→SV} {o:Nat→Option AO} {nk a t:Nat} {i:TI} {k g:Nat} {cs:List SV} {ds:List D} (hx:sl a=.loc k g) (hi:Θ t=some i) (ha:i.k.agg=true) (ho:o k=some (.box cs)) (hc:allD ((cs.drop g).take i.sz)=some ds) (hl:ds.length=i.sz) (hlf:ds.all D.leaf=true):ResIs Θ ⟨sl,o,nk⟩ (.cell a t) (.d (.agg ds)):=by
 refine ⟨⟨k,g,hx⟩,i,hi,?_⟩;show (match sl a with | .loc k f=>_ | .el x=>_ | _=>False);rw [hx];refine ⟨cs,ho,?_⟩;rw [if_pos ha];exact .inl ⟨ds,hc,hl,hlf,rfl⟩
theorem retC1_ok {Θ:Tab} {a t:Nat} {sl:Nat→SV} {o o0:Nat→Option AO} {nk nk0:Nat} {x x':D} (h1:ResIs Θ ⟨sl,o,nk⟩ (.cell a t) (.d x')) (hx:x'=x) (h3:nk0≤nk) (h4:∀ t,t < nk0→o t=o0 t) :
    retC Θ [.cell a t] (fun r o' nk'=>r=.d x∧nk0≤nk'∧∀ t,t < nk0→o' t=o0 t) .ret ⟨sl,o,nk⟩:=
  ⟨[.d x'],⟨h1,trivial⟩,by rw [hx];rfl,h3,h4⟩
def DSpec (P:Program) (f:FuncId) (args:List SV) (e z:Nat) (xs:List D):Prop:=∀ (o:Nat→Option AO) (nk:Nat),Spec P f args o nk fun r o' nk'=>(r=.d .nil∧xs=[]∧nk≤nk'∧∀ t,t < nk→o' t=o t)∨∃ q,r=.row q∧nk≤q∧q < nk'∧o' q=some (.row e z xs)∧∀ t,t < nk→o' t=o t
theorem DSpec.of {P:Program} {f:FuncId} {n:Nat} {ts:List Nat} {c:Code} {args:List SV} {e z:Nat} {xs:List D} (hf:FnOk P f n ts c) (hn:args.length≤n)
 (h:∀ o nk,WP P n nk c ⟨slots args,o,nk⟩ (retQ ts fun r o' nk'=>(r=.d .nil∧xs=[]∧nk≤nk'∧∀ t,t < nk→o' t=o t)∨∃ q,r=.row q∧nk≤q∧q < nk'∧o' q=some (.row e z xs)∧∀ t,t < nk→o' t=o t)):DSpec P f args e z xs:=fun o nk=>Spec.of_body hf hn (h o nk)
theorem drow_ok {ts:List Nat} {sl:Nat→SV} {o o0:Nat→Option AO} {nk nk0 q e z:Nat} {xs:List D} (h1:resOf ts ⟨sl,o,nk⟩=.row q) (h2:nk0≤q) (h3:q < nk) (h5:o q=some (.row e z xs)) (h4:∀ t,t < nk0→o t=o0 t) :
 retQ ts (fun r o' nk'=>(r=.d .nil∧xs=[]∧nk0≤nk'∧∀ t,t < nk0→o' t=o0 t)∨∃ q,r=.row q∧nk0≤q∧q < nk'∧o' q=some (.row e z xs)∧∀ t,t < nk0→o' t=o0 t) .ret ⟨sl,o,nk⟩:=.inr ⟨q,h1,h2,h3,h5,h4⟩
theorem dnil_ok {ts:List Nat} {sl:Nat→SV} {o o0:Nat→Option AO} {nk nk0 e z:Nat} {xs:List D} (h1:resOf ts ⟨sl,o,nk⟩=.d .nil) (h2:xs=[]) (h3:nk0≤nk) (h4:∀ t,t < nk0→o t=o0 t) :
 retQ ts (fun r o' nk'=>(r=.d .nil∧xs=[]∧nk0≤nk'∧∀ t,t < nk0→o' t=o0 t)∨∃ q,r=.row q∧nk0≤q∧q < nk'∧o' q=some (.row e z xs)∧∀ t,t < nk0→o' t=o0 t) .ret ⟨sl,o,nk⟩:=.inl ⟨h1,h2,h3,h4⟩
theorem DSpec.le {P:Program} {f:FuncId} {args args':List SV} {e z:Nat} {xs:List D} (h:DSpec P f args' e z xs) (hl:SV.les args args'):DSpec P f args e z xs:=fun o nk=>(h o nk).le hl
theorem DSpec.bd {P:Program} {f:FuncId} {args:List SV} {e z:Nat} {xs:List D} (h:SV.bds args→DSpec P f args e z xs):DSpec P f args e z xs:=fun o nk=>Spec.bd fun hb=>h hb o nk
theorem frz_post {P:Program} {w:World} {S:Nat→Prop} {γ:Nat→Value} {o:Nat→Option AO} {nk:Nat} {z:Nat} {xs:List D} {v:Value} {w':World} (h1:Sto w S γ o nk) {r:SV} {o':Nat→Option AO} {nk':Nat} {S':Nat→Prop} {γ':Nat→Value} {e q:Nat}
    (hr:r=.row q) (ho:o' q=some (.row e z xs)) (hnq:nk≤q) (hfr:∀ t,t < nk→o' t=o t) (hs:Sto w' S' γ' o' nk') (ht:Tr w S γ o nk w' S' γ' o' nk') (hsr:SR w' S' γ' o' r v) :
    Post P w S γ o nk (fun r o'' nk''=>r=.d (.sl z xs)∧o''=o∧nk''=nk) v w':=by
  subst hr;obtain ⟨k1,k2,k3⟩:=hs.freeze ho;have hv:Rd w' (fun k=>S' k∨blk (γ' q)=some k) (.sl z xs) v:=by
    cases hsr with
    | row _ _ hv=>rw [hv e z xs ho];exact k3
  have hk:Wko nk id (upd o' q none) o nk:=by
    refine ⟨Nat.le_refl _,fun t x hx=>?_,fun t t' x x' _ _ e=>e,fun _ _ _ _=>rfl⟩;have hlt:=h1.o_lt t x hx;refine ⟨hlt,?_,?_⟩
    · rw [AO.ren_id];show upd o' q none t=some x;rw [upd_ne _ _ (by omega),hfr t hlt,hx]
    · cases x with
      | box cs=>exact (h1.box t cs hx).2
      | row=>trivial
      | raw=>trivial
  exact ⟨.d (.sl z xs),o,nk,_,γ' ∘ id,⟨rfl,rfl,rfl⟩,hk.sto k1,hk.tr (ht.trans k2),.d _ _ hv,trivial⟩
theorem nil_post {P:Program} {w:World} {S:Nat→Prop} {γ:Nat→Value} {o:Nat→Option AO} {nk:Nat} {z:Nat} {v:Value} {w':World} (h1:Sto w S γ o nk) {r:SV} {o':Nat→Option AO} {nk':Nat} {S':Nat→Prop} {γ':Nat→Value}
    (hr:r=.d .nil) (hfr:∀ t,t < nk→o' t=o t) (hs:Sto w' S' γ' o' nk') (ht:Tr w S γ o nk w' S' γ' o' nk') (hsr:SR w' S' γ' o' r v) :
    Post P w S γ o nk (fun r o'' nk''=>r=.d (.sl z [])∧o''=o∧nk''=nk) v w':=by
  subst hr;have hk:Wko nk id o' o nk:=by
    refine ⟨Nat.le_refl _,fun t x hx=>?_,fun t t' x x' _ _ e=>e,fun _ _ _ _=>rfl⟩;have hlt:=h1.o_lt t x hx;refine ⟨hlt,?_,?_⟩
    · rw [AO.ren_id];show o' t=some x;rw [hfr t hlt,hx]
    · cases x with
      | box cs=>exact (h1.box t cs hx).2
      | row=>trivial
      | raw=>trivial
  refine ⟨.d (.sl z []),o,nk,_,γ' ∘ id,⟨rfl,rfl,rfl⟩,hk.sto hs,hk.tr ht,?_,trivial⟩;cases hsr with
  | d _ _ hrd=>exact .d _ _ (hrd.le (by simp [D.le]))
theorem RSpec.frz {P:Program} {f:FuncId} {args:List SV} {e z:Nat} {xs:List D} (h:RSpec P f args e z xs):PSpec P f args (.d (.sl z xs)):=fun o nk w S γ vs h1 h2 h3 h4=>by
 refine (h o nk w S γ vs h1 h2 h3 h4).mono ?_;rintro v w' ⟨r,o',nk',S',γ',⟨q,hr,k1,k2,k3,k4⟩,hs,ht,hsr,hl⟩;exact frz_post h1 hr k3 k1 k4 hs ht hsr
theorem DSpec.frz {P:Program} {f:FuncId} {args:List SV} {e z:Nat} {xs:List D} (h:DSpec P f args e z xs):PSpec P f args (.d (.sl z xs)):=fun o nk w S γ vs h1 h2 h3 h4=>by
 refine (h o nk w S γ vs h1 h2 h3 h4).mono ?_;rintro v w' ⟨r,o',nk',S',γ',⟨hr,rfl,k1,k4⟩ | ⟨q,hr,k1,k2,k3,k4⟩,hs,ht,hsr,hl⟩
 ·exact nil_post h1 hr k4 hs ht hsr
 ·exact frz_post h1 hr k3 k1 k4 hs ht hsr
theorem o_bs1 {Θ:Tab} {P:Program} {K:SV→(Nat→Option AO)→Nat→Prop} {sl:Nat→SV} {o:Nat→Option AO} {nk:Nat} {x:Operand} {t e:Nat} {a:D} {i j:TI} {l:List D} (hx:ev sl x=.d a) (hw:a.width=j.sz) (hi:Θ t=some i) (hk:i.k=.slice e) (hj:Θ e=some j) (hz:j.z=some l) (hl:l.length=j.sz) (hpos:0 < j.sz) (hs:1 * j.sz≤16777216) (h:K (.d (.sl j.sz [a])) o nk):vOp P Θ (.buildSlice t 1 #[(0,x)]) ⟨sl,o,nk⟩ K:=
 o_bs (xs:=[a]) (by simp [partsL,hx,hw]) hi hk hj hz hl hpos rfl hs (by decide) h
theorem o_eqnil {Θ:Tab} {P:Program} {K:SV→(Nat→Option AO)→Nat→Prop} {sl:Nat→SV} {o:Nat→Option AO} {nk:Nat} {x y:Operand} {t u e z:Nat} {xs:List D} {i:TI} (hx:ev sl x=.d (.sl z xs)) (hy:ev sl y=.d .nil) (hi:Θ t=some i) (hk:i.k=.slice e) (h:∀ b:Bool,(b=true→xs=[])→K (.d (.bool b)) o nk):vOp P Θ (.binOp .eql t x y u) ⟨sl,o,nk⟩ K:=by
 refine Or.inl ?_;show bnOp Θ o .eql t (ev sl x) (ev sl y) (fun v=>K v o nk);rw [hx,hy];exact ⟨⟨i,e,hi,hk⟩,h⟩
theorem wk_new {P:Program} {f:FuncId} {args:List SV} {o:Nat→Option AO} {nk:Nat} {x:AO} (hx:∀ m,x.lt m) (hi:x.ren (fun _=>0)=x) {o':Nat→Option AO} {nk' q:Nat} (h1:nk≤q) (h2:q < nk') (h3:o' q=some x) (h4:∀ t,t < nk→o' t=o t)
    (hlt:∀ t y,o t=some y→t < nk∧y.lt nk) (hr:∀ τ,x.ren τ=x) (hid:∀ t y,o t=some y→∀ τ:Nat→Nat,(∀ u,u < nk→τ u=u)→y.ren τ=y):Wko nk (fun t=>if t=nk then q else t) o' (upd o nk (some x)) (nk+1):=by
  refine ⟨by omega,fun t y hy=>?_,fun t t' y y' hy hy' e=>?_,fun t y ht _=>if_neg (by omega)⟩
  · unfold upd at hy;split at hy
    · rename_i he;subst he;injection hy with hy;subst hy;exact ⟨by omega,by simp only [if_true,h3,hr],hx _⟩
    · rename_i hne;obtain ⟨h5,h6⟩:=hlt t y hy;refine ⟨by omega,?_,?_⟩
      · rw [if_neg hne,h4 t h5,hy,hid t y hy _ fun u hu=>if_neg (by omega)]
      · cases y with
        | box cs=>exact SV.lts_mono (by omega) h6
        | row=>trivial
        | raw=>trivial
  · have key:∀ t y,upd o nk (some x) t=some y→t=nk∨t < nk:=fun t y hy=>by
      unfold upd at hy;split at hy
      · rename_i he;exact .inl he
      · exact .inr (hlt t y hy).1
    have k1:=key t y hy;have k2:=key t' y' hy';by_cases ht:t=nk
    · by_cases ht':t'=nk
      · rw [ht,ht']
      · rw [if_pos ht,if_neg ht'] at e;omega
    · by_cases ht':t'=nk
      · rw [if_neg ht,if_pos ht'] at e;omega
      · rw [if_neg ht,if_neg ht'] at e;exact e
mutual
theorem SV.ren_lt {n:Nat} {τ:Nat→Nat} (h:∀ u,u < n→τ u=u):∀ {c:SV},c.lt n→c.ren τ=c
 | .loc t f,hl=>by simp only [SV.ren,h t hl]
 | .row t,hl=>by simp only [SV.ren,h t hl]
 | .rel t j f,hl=>by simp only [SV.ren,h t hl]
 | .raw t,hl=>by simp only [SV.ren,h t hl]
 | .view t lo n c,hl=>by simp only [SV.ren,h t hl]
 | .dx z xs,_=>rfl
 | .clo g fs cs,hl=>by simp only [SV.ren,SV.rens_lt h hl.1,SV.rens_lt h hl.2]
 | .tup cs,hl=>by simp only [SV.ren];rw [SV.rens_lt h hl]
 | .ag cs,hl=>by simp only [SV.ren];rw [SV.rens_lt h hl]
 | .d x,_=>rfl
 | .el x,_=>rfl
 | .any,_=>rfl
theorem SV.rens_lt {n:Nat} {τ:Nat→Nat} (h:∀ u,u < n→τ u=u):∀ {cs:List SV},SV.lts n cs→SV.rens τ cs=cs
 | [],_=>rfl
 | c :: cs,hl=>by simp only [SV.rens];rw [SV.ren_lt h hl.1,SV.rens_lt h hl.2]
end
theorem Spec.newRow {P:Program} {f:FuncId} {args:List SV} {o:Nat→Option AO} {nk:Nat} {e z:Nat} {xs:List D}
    (h:Spec P f args o nk fun r o' nk'=>∃ q,r=.row q∧nk≤q∧q < nk'∧o' q=some (.row e z xs)∧∀ t,t < nk→o' t=o t) :
    Spec P f args o nk fun r o' nk'=>r=.row nk∧o'=upd o nk (some (.row e z xs))∧nk'=nk+1:=by
  intro w S γ vs h1 h2 h3 h4;refine (h w S γ vs h1 h2 h3 h4).mono ?_;rintro v w' ⟨r,o',nk',S',γ',⟨q,rfl,k1,k2,k3,k4⟩,hs,ht,hr,hl⟩;have hlt:∀ t y,o t=some y→t < nk∧y.lt nk:=fun t y hy=>by
    refine ⟨h1.o_lt t y hy,?_⟩;cases y with
    | box cs=>exact (h1.box t cs hy).2
    | row=>trivial
    | raw=>trivial
  have hid:∀ t y,o t=some y→∀ τ:Nat→Nat,(∀ u,u < nk→τ u=u)→y.ren τ=y:=fun t y hy τ hτ=>by
    cases y with
    | box cs=>simp only [AO.ren];rw [SV.rens_lt hτ (h1.box t cs hy).2]
    | row=>rfl
    | raw=>rfl
  have hk:Wko nk (fun t=>if t=nk then q else t) o' (upd o nk (some (.row e z xs))) (nk+1):=wk_new (P:=P) (f:=f) (args:=args) (x:=.row e z xs) (fun _=>trivial) rfl k1 k2 k3 k4 hlt (fun _=>rfl) hid;refine ⟨.row nk,_,_,S',γ' ∘ _,⟨rfl,rfl,rfl⟩,hk.sto hs,hk.tr ht,hr.of_ren (fun t x hx=>(hk.o t x hx).2.1) (.row nk) ?_,Nat.lt_succ_self _⟩;simp [SV.ren]
theorem RSpec.new {P:Program} {f:FuncId} {args:List SV} {e z:Nat} {xs:List D} (h:RSpec P f args e z xs) (o:Nat→Option AO) (nk:Nat):Spec P f args o nk fun r o' nk'=>r=.row nk∧o'=upd o nk (some (.row e z xs))∧nk'=nk+1:=
 Spec.newRow (h o nk)
section
variable {P:Program} {Θ:Tab} {K:SV→(Nat→Option AO)→Nat→Prop} {sl:Nat→SV} {o:Nat→Option AO} {nk:Nat} {x y ix:Operand} {t e f:Nat}
end
section
variable {P:Program} {Θ:Tab} {ops:Array Oper} {K:St→Prop} {r:List Oper} {sl:Nat→SV} {d ty j lo m nk nk':Nat} {o o':Nat→Option AO} {op:Op} {pos:String} {af:Array Edge} {want c:Bool} {v:SV} {L:List Ob} {ks:List Kd}
theorem e_step3 {o2:Nat→Option AO} {nk2:Nat} (h0:L[lo]?=some (o,nk)) (h1:L[lo+1]?=some (o',nk')) (h9:L[lo+2]?=some (o2,nk2)) (h:vOp P Θ op ⟨sl,o,nk⟩ fun v' o'' nk''=>v'=v∧o''=o∧nk''=nk) (h2:vOp P Θ op ⟨sl,o',nk'⟩ fun v' o'' nk''=>v'=v∧o''=o'∧nk''=nk')
    (h3:vOp P Θ op ⟨sl,o2,nk2⟩ fun v' o'' nk''=>v'=v∧o''=o2∧nk''=nk2) (k:eOps P Θ ops K (pho L) m r ks (upd sl d v)) :
    eOps P Θ ops K (pho L) m ({ dst:=some d,op:=op,type:=ty,pos:=pos,after:=af,guard:=none } :: r) (.q lo (lo+2) :: ks) sl:=by
  refine ⟨v,?_,k⟩;show allP (lo+2 - lo) _ lo;rw [Nat.add_sub_cancel_left];simp only [allP,pho_at h0,pho_at h1,pho_at h9];exact ⟨h,h2,h3⟩
end
inductive TM (α:Type) where
 | e
 | n (v:Option α) (l r:TM α)
namespace TM
variable {α:Type}
def get:TM α→Nat→Option α
 | .e,_=>none
 | .n v _ _,0=>v
 | .n _ l r,k+1=>bif Nat.beq (k % 2) 0 then get l (k / 2) else get r (k / 2)
def seq {β:Type} (t:TM α) (k:TM α→β):β:=match t with
 | .e=>k .e
 | .n v l r=>k (.n v l r)
theorem seq_eq {β:Type} (t:TM α) (k:TM α→β):seq t k=k t:=by cases t <;> rfl
def put (v:Option α):Nat→TM α→Nat→TM α
 | 0,t,_=>t
 | _+1,.e,0=>.n v .e .e
 | _+1,.n _ l r,0=>.n v l r
 | d+1,.e,k+1=>bif Nat.beq (k % 2) 0 then seq (put v d .e (k / 2)) fun l=>.n none l .e else seq (put v d .e (k / 2)) fun r=>.n none .e r
 | d+1,.n u l r,k+1=>bif Nat.beq (k % 2) 0 then seq (put v d l (k / 2)) fun l=>.n u l r else seq (put v d r (k / 2)) fun r=>.n u l r
theorem beq_cond {a b:Nat} {β:Type} (x y:β):(bif Nat.beq a b then x else y)=if a=b then x else y:=by
 by_cases h:a=b
 ·subst h;simp
 ·have:Nat.beq a b=false:=by
   cases hb:Nat.beq a b with
   | false=>rfl
   | true=>exact absurd (Nat.eq_of_beq_eq_true hb) h
  rw [this,if_neg h];rfl
theorem get_put (v:Option α):∀ (d:Nat) (t:TM α) (k i:Nat),k < d→(put v d t k).get i=if i=k then v else t.get i
 | 0,_,_,_,h=>by omega
 | d+1,.e,0,i,_=>by
  cases i with
  | zero=>simp [put,get]
  | succ i=>simp only [put,get,beq_cond];simp
 | d+1,.n u l r,0,i,_=>by
  cases i with
  | zero=>simp [put,get]
  | succ i=>simp only [put,get,beq_cond];simp
 | d+1,.e,k+1,i,h=>by
  have ih:=get_put v d .e (k / 2);simp only [put,beq_cond,seq_eq];cases i with
  | zero=>split <;> simp [get]
  | succ i=>
   split
   ·simp only [get,beq_cond,ih _ (show k / 2 < d by omega)];split
    ·by_cases hc:i / 2=k / 2
     ·rw [if_pos hc,if_pos (by omega)]
     ·rw [if_neg hc,if_neg (by omega)]
    ·rw [if_neg (by omega)]
   ·simp only [get,beq_cond,ih _ (show k / 2 < d by omega)];split
    ·rw [if_neg (by omega)]
    ·by_cases hc:i / 2=k / 2
     ·rw [if_pos hc,if_pos (by omega)]
     ·rw [if_neg hc,if_neg (by omega)]
 | d+1,.n u l r,k+1,i,h=>by
  have ih1:=get_put v d l (k / 2);have ih2:=get_put v d r (k / 2);simp only [put,beq_cond,seq_eq];cases i with
  | zero=>split <;> simp [get]
  | succ i=>
   split
   ·simp only [get,beq_cond,ih1 _ (show k / 2 < d by omega)];split
    ·by_cases hc:i / 2=k / 2
     ·rw [if_pos hc,if_pos (by omega)]
     ·rw [if_neg hc,if_neg (by omega)]
    ·rw [if_neg (by omega)]
   ·simp only [get,beq_cond,ih2 _ (show k / 2 < d by omega)];split
    ·rw [if_neg (by omega)]
    ·by_cases hc:i / 2=k / 2
     ·rw [if_pos hc,if_pos (by omega)]
     ·rw [if_neg hc,if_neg (by omega)]
def set (t:TM α) (k:Nat) (v:Option α):TM α:=put v (k+1) t k
theorem get_set (t:TM α) (k:Nat) (v:Option α):(t.set k v).get=upd t.get k v:=by
 funext i;unfold set upd;exact get_put v _ t k i (by omega)
def mapT (f:α→α):TM α→TM α
 | .e=>.e
 | .n v l r=>seq (mapT f l) fun l=>seq (mapT f r) fun r=>match v with
  | none=>.n none l r
  | some x=>.n (some (f x)) l r
theorem get_mapT (f:α→α):∀ (t:TM α) (i:Nat),(mapT f t).get i=(t.get i).map f
 | .e,i=>rfl
 | .n v l r,i=>by
  have h1:=get_mapT f l;have h2:=get_mapT f r;simp only [mapT,seq_eq];cases v <;> cases i with
  | zero=>rfl
  | succ i=>simp only [get,beq_cond];split <;> simp [h1,h2]
def ofList (l:List α):TM α:=go l 0 .e
where go:List α→Nat→TM α→TM α
 | [],_,t=>t
 | x :: l,i,t=>go l (i+1) (t.set i (some x))
theorem ofList_go:∀ (l:List α) (k:Nat) (t:TM α) (i:Nat),(ofList.go l k t).get i=if k≤i∧i < k+l.length then l[i - k]? else t.get i
 | [],k,t,i=>by simp only [ofList.go,List.length_nil];rw [if_neg (by omega)]
 | x :: l,k,t,i=>by
  simp only [ofList.go,ofList_go l,get_set,upd,List.length_cons];by_cases h1:k+1≤i∧i < k+1+l.length
  ·rw [if_pos h1,if_pos (by omega),show i - k=(i - (k+1))+1 by omega,List.getElem?_cons_succ]
  ·rw [if_neg h1];by_cases h2:i=k
   ·subst h2;rw [if_pos rfl,if_pos (by omega)];simp
   ·rw [if_neg h2,if_neg (by omega)]
theorem get_ofList (l:List α) (i:Nat):(ofList l).get i=l[i]?:=by
 unfold ofList;rw [ofList_go];by_cases h:i < l.length
 ·rw [if_pos (by omega)];simp
 ·rw [if_neg (by omega),List.getElem?_eq_none (by omega)];rfl
end TM
structure XS where
 sl:TM SV
 o:TM AO
 nk:Nat
def XS.st (s:XS):St:=⟨fun u=>(s.sl.get u).getD .any,s.o.get,s.nk⟩
abbrev XR:=SV×TM AO×Nat
section
variable (Θ:Tab) (call:Nat→List SV→TM AO→Nat→Option XR)
def xbn (o:Nat→Option AO) (op:BinOp) (t:TypeId) (x y:SV):Option D:=
 match x,y with
 | .d (.int k a),.d (.int k' b)=>match op with
  | .shl=>shBin .shl k a b
  | .shr=>shBin .shr k a b
  | op=>if k=k' then intBin op k a b else none
 | .d (.str a),.d (.str b)=>strBin op a b
 | .d (.bool a),.d (.bool b)=>match Θ t with
  | some i=>match i.k with
   | .bool=>match op with
    | .eql=>some (.bool (a == b))
    | .neq=>some (.bool (!(a == b)))
    | _=>none
   | _=>none
  | none=>none
 | .d .nil,.d .nil=>match Θ t with
  | some i=>match i.k with
   | .slice _=>match op with
    | .eql=>some (.bool true)
    | .neq=>some (.bool false)
    | _=>none
   | _=>none
  | none=>none
 | .d (.sl _ (_ :: _)),.d .nil=>match Θ t with
  | some i=>match i.k with
   | .slice _=>match op with
    | .eql=>some (.bool false)
    | .neq=>some (.bool true)
    | _=>none
   | _=>none
  | none=>none
 | .d .nilp,.d .nilp=>match Θ t with
  | some i=>match i.k with
   | .ptr _=>match op with
    | .eql=>some (.bool true)
    | .neq=>some (.bool false)
    | _=>none
   | _=>none
  | none=>none
 | .loc q _,.d .nilp=>match Θ t with
  | some i=>match i.k with
   | .ptr _=>match o q with
    | some (.box _)=>match op with
     | .eql=>some (.bool false)
     | .neq=>some (.bool true)
     | _=>none
    | _=>none
   | _=>none
  | none=>none
 | _,_=>none
theorem xbn_ok {o:Nat→Option AO} {op:BinOp} {t:TypeId} {x y:SV} {r:D} (h:xbn Θ o op t x y=some r) {K:SV→Prop} (hK:K (.d r)):bnOp Θ o op t x y K:=by
 unfold xbn at h;split at h
 ·split at h
  ·exact ⟨r,h,hK⟩
  ·exact ⟨r,h,hK⟩
  ·split at h
   ·rename_i he;unfold bnOp;simp only;exact ⟨he,r,h,hK⟩
   ·cases h
 ·exact ⟨r,h,hK⟩
 all_goals (repeat' (split at h)) <;> first | (cases h;done) | (simp only [Option.some.injEq] at h;subst h;simp_all [bnOp])
def oneX (o:Nat→Option AO):SV→Bool
 | .d x=>x.leaf
 | .loc t g=>oneC o (.loc t g)
 | _=>false
theorem oneX_C {o:Nat→Option AO} {c:SV} (h:oneX o c=true):oneC o c=true:=by
 cases c <;> simp_all [oneX,oneC]
def xld (o:Nat→Option AO) (t:TypeId) (x:SV):Option SV:=
 match Θ t with
 | none=>none
 | some i=>match x with
  | .loc k f=>match o k with
   | some (.box cs)=>match i.k.agg with
    | true=>match allD ((cs.drop f).take i.sz) with
     | some ds=>if ds.length=i.sz∧ds.all D.leaf=true then some (.d (.agg ds)) else none
     | none=>if ((cs.drop f).take i.sz).length=i.sz∧((cs.drop f).take i.sz).all (oneX o)=true then some (.ag ((cs.drop f).take i.sz)) else none
    | false=>cs[f]?
   | _=>none
  | .el x=>if x.leaf=!i.k.agg∧x.width=i.sz then some (.d x) else none
  | _=>none
theorem xld_ok {o:Nat→Option AO} {t:TypeId} {x:SV} {r:SV} (h:xld Θ o t x=some r) {K:SV→Prop} (hK:K r):ldOp Θ o t x K:=by
 unfold xld at h;split at h
 ·cases h
 ·rename_i i hi;refine ⟨i,hi,?_⟩;split at h
  ·split at h
   ·rename_i cs hcs;refine ⟨cs,hcs,?_⟩;split at h
    ·rename_i ha;rw [if_pos ha];split at h
     ·rename_i ds hds;split at h
      ·rename_i hc;simp only [Option.some.injEq] at h;subst h;exact .inl ⟨ds,hds,hc.1,hc.2,hK⟩
      ·cases h
     ·split at h
      ·rename_i hc;simp only [Option.some.injEq] at h;subst h;exact .inr ⟨hc.1,List.all_eq_true.2 fun c hm=>oneX_C (List.all_eq_true.1 hc.2 c hm),hK⟩
      ·cases h
    ·rename_i ha;rw [if_neg (by simp [ha])];exact ⟨r,h,hK⟩
   ·cases h
  ·split at h
   ·rename_i hc;simp only [Option.some.injEq] at h;subst h;exact ⟨hc.1,hc.2,hK⟩
   ·cases h
  ·cases h
def xst (o:TM AO) (t:TypeId) (x y:SV):Option (TM AO):=
 match Θ t with
 | none=>none
 | some i=>match y.cells o.get with
  | none=>none
  | some ys=>if ys.length=i.sz then match x with
   | .loc k f=>match o.get k with
    | some (.box cs)=>if f+ys.length≤cs.length then some (o.set k (some (.box (cs.take f++ys++cs.drop (f+ys.length))))) else none
    | _=>none
   | _=>none
   else none
theorem xst_ok {o:TM AO} {t:TypeId} {x y:SV} {r:TM AO} (h:xst Θ o t x y=some r) {K:(Nat→Option AO)→Prop} (hK:K r.get):stOp Θ o.get t x y K:=by
 unfold xst at h;split at h
 ·cases h
 ·rename_i i hi;split at h
  ·cases h
  ·rename_i ys hys;split at h
   ·rename_i hl;refine ⟨i,ys,hi,hys,hl,?_⟩;split at h
    ·split at h
     ·rename_i cs hcs;split at h
      ·rename_i hle;simp only [Option.some.injEq] at h;subst h;rw [TM.get_set] at hK;exact ⟨cs,hcs,hle,hK⟩
      ·cases h
     ·cases h
    ·cases h
   ·cases h
def xfd (o:Nat→Option AO) (t:TypeId) (x:SV) (f:Nat):Option SV:=
 match Θ t with
 | none=>none
 | some i=>match i.k with
  | .struct fs=>match fs[f]? with
   | none=>none
   | some (off,ft)=>match Θ ft with
    | none=>none
    | some j=>if j.sz=0 then none else match x with
     | .loc k g=>match o k with
      | some (.box _)=>some (.loc k (g+off))
      | _=>none
     | .el x=>(x.sub off j.sz j.k.agg).map .el
     | .rel k q g=>match o k with
      | some (.row _ _ _)=>some (.rel k q (g+off))
      | _=>none
     | _=>none
  | _=>none
theorem xfd_ok {o:Nat→Option AO} {t:TypeId} {x:SV} {f:Nat} {r:SV} (h:xfd Θ o t x f=some r) {K:SV→Prop} (hK:K r):fdOp Θ o t x f K:=by
 unfold xfd at h;split at h
 ·cases h
 ·rename_i i hi;split at h
  ·rename_i fs hk;split at h
   ·cases h
   ·rename_i off ft hf;split at h
    ·cases h
    ·rename_i j hj;split at h
     ·cases h
     ·rename_i hz;refine ⟨i,fs,off,ft,j,hi,hk,hf,hj,hz,?_⟩;split at h
      ·split at h
       ·rename_i cs hcs;simp only [Option.some.injEq] at h;subst h;exact ⟨⟨_,hcs⟩,hK⟩
       ·cases h
      ·obtain ⟨y,h1,rfl⟩:=Option.map_eq_some_iff.1 h;exact ⟨y,h1,hK⟩
      ·split at h
       ·rename_i e z xs hcs;simp only [Option.some.injEq] at h;subst h;exact ⟨⟨_,_,_,hcs⟩,hK⟩
       ·cases h
      ·cases h
  ·cases h
def xfv (t:TypeId) (x:SV) (f:Nat):Option SV:=
 match Θ t with
 | none=>none
 | some i=>match i.k with
  | .struct fs=>match fs[f]? with
   | none=>none
   | some (off,ft)=>match Θ ft with
    | none=>none
    | some j=>match x with
     | .d x=>(x.sub off j.sz j.k.agg).map .d
     | _=>none
  | _=>none
theorem xfv_ok {t:TypeId} {x:SV} {f:Nat} {r:SV} (h:xfv Θ t x f=some r) {K:SV→Prop} (hK:K r):fvOp Θ t x f K:=by
 unfold xfv at h;split at h
 ·cases h
 ·rename_i i hi;split at h
  ·rename_i fs hk;split at h
   ·cases h
   ·rename_i off ft hf;split at h
    ·cases h
    ·rename_i j hj;refine ⟨i,fs,off,ft,j,hi,hk,hf,hj,?_⟩;split at h
     ·obtain ⟨y,h1,rfl⟩:=Option.map_eq_some_iff.1 h;exact ⟨y,h1,hK⟩
     ·cases h
  ·cases h
def xix (o:Nat→Option AO) (t:TypeId) (x ix:SV):Option SV:=
 match Θ t with
 | none=>none
 | some i=>match ix with
  | .d (.int _ n)=>if n < 0 then none else match i.k with
   | .slice e=>match Θ e with
    | none=>none
    | some j=>match x with
     | .d (.sl z xs)=>if z=j.sz then (xs[n.toNat]?).map .el else none
     | .row q=>match o q with
      | some (.row _ z xs)=>if z=j.sz∧n.toNat < xs.length then some (.rel q n.toNat 0) else none
      | _=>none
     | _=>none
   | .arr m e=>match Θ e with
    | none=>none
    | some j=>match x with
     | .loc q f=>match o q with
      | some (.box _)=>if n.toNat < m then some (.loc q (f+n.toNat * j.sz)) else none
      | _=>none
     | _=>none
   | _=>none
  | _=>none
theorem xix_ok {o:Nat→Option AO} {t:TypeId} {x ix:SV} {r:SV} (h:xix Θ o t x ix=some r) {K:SV→Prop} (hK:K r):ixOp Θ o t x ix K:=by
 unfold xix at h;split at h
 ·cases h
 ·rename_i i hi;split at h
  ·rename_i k n;split at h
   ·cases h
   ·rename_i hn;split at h
    ·rename_i e hk;split at h
     ·cases h
     ·rename_i j hj;refine ⟨i,e,j,k,n,hi,.inl hk,hj,rfl,by omega,?_⟩;split at h
      ·split at h
       ·rename_i hz;obtain ⟨y,h1,rfl⟩:=Option.map_eq_some_iff.1 h;exact ⟨hk,hz,y,h1,hK⟩
       ·cases h
      ·split at h
       ·split at h
        ·rename_i hz;obtain ⟨rfl,hlt⟩:=hz;simp only [Option.some.injEq] at h;subst h;rename_i hq;exact ⟨hk,_,_,hq,hlt,hK⟩
        ·cases h
       ·cases h
      ·cases h
    ·rename_i m e hk;split at h
     ·cases h
     ·rename_i j hj;split at h
      ·split at h
       ·rename_i hq;split at h
        ·rename_i hlt;simp only [Option.some.injEq] at h;subst h;exact ⟨i,e,j,k,n,hi,.inr ⟨m,hk,hlt⟩,hj,rfl,by omega,⟨m,hk⟩,⟨_,hq⟩,hK⟩
        ·cases h
       ·cases h
      ·cases h
    ·cases h
  ·cases h
def xco (o:Nat→Option AO) (src dst:TypeId) (x:SV):Option SV:=
 match Θ src with
 | none=>none
 | some i=>match Θ dst with
  | none=>none
  | some j=>match x with
   | .d (.int _ n)=>match j.k with
    | .int k'=>some (.d (.int k' (k'.wrap n)))
    | .str=>match i.k with
     | .int _=>some (.d (.str (Utf8.encode n).data.toList))
     | _=>none
    | _=>none
   | .d (.str b)=>match i.k with
    | .str=>match j.k with
     | .str=>some (.d (.str b))
     | .slice e=>match Θ e with
      | none=>none
      | some je=>match je.k with
       | .int .u8=>if b.length≤9223372036854775807 then some (.d (.sl 1 (bytesD b))) else none
       | _=>none
     | _=>none
    | _=>none
   | x=>match j.k with
    | .str=>match i.k with
     | .slice e=>match Θ e with
      | none=>none
      | some je=>match je.k with
       | .int .u8=>match srcOf o 1 x with
        | none=>none
        | some ys=>(byteL ys).map fun b=>.d (.str b)
       | _=>none
     | _=>none
    | _=>none
theorem xco_ok {o:Nat→Option AO} {src dst:TypeId} {x:SV} {r:SV} (h:xco Θ o src dst x=some r) {K:SV→Prop} (hK:K r):coOp Θ o src dst x K:=by
 unfold xco at h;split at h
 ·cases h
 ·rename_i i hi;split at h
  ·cases h
  ·rename_i j hj;refine ⟨i,j,hi,hj,?_⟩;split at h
   ·split at h
    ·rename_i k' hk;simp only [Option.some.injEq] at h;subst h;simp only [hk];exact hK
    ·rename_i hk;split at h
     ·rename_i q hq;simp only [Option.some.injEq] at h;subst h;simp only [hk];exact ⟨⟨q,hq⟩,hK⟩
     ·cases h
    ·cases h
   ·split at h
    ·rename_i hi2;refine ⟨hi2,?_⟩;split at h
     ·rename_i hk;simp only [Option.some.injEq] at h;subst h;simp only [hk];exact hK
     ·rename_i e hk;split at h
      ·cases h
      ·rename_i je he;split at h
       ·rename_i hje;split at h
        ·rename_i hle;simp only [Option.some.injEq] at h;subst h;simp only [hk];exact ⟨⟨je,he,hje⟩,hle,hK⟩
        ·cases h
       ·cases h
     ·cases h
    ·cases h
   ·rename_i x h1 h2;split at h
    ·rename_i hk;split at h
     ·rename_i e hik;split at h
      ·cases h
      ·rename_i je he;split at h
       ·rename_i hje;split at h
        ·cases h
        ·rename_i ys hys;obtain ⟨b,hb,rfl⟩:=Option.map_eq_some_iff.1 h;split
         ·rename_i a b;exact absurd rfl (h1 _ _)
         ·rename_i b;exact absurd rfl (h2 _)
         ·exact ⟨hk,⟨e,je,hik,he,hje⟩,ys,b,hys,hb,hK⟩
       ·cases h
     ·cases h
    ·cases h
theorem mxhi {hi mx:Option SV} (h:mx.isNone=true∨hi.isNone=false):mx=none∨hi≠none:=by cases mx <;> cases hi <;> simp_all
def xsl (o:TM AO) (nk:Nat) (t:TypeId) (x:SV) (lo hi mx:Option SV):Option XR:=
 match Θ t with
 | none=>none
 | some i=>match x with
  | .d (.str b)=>match i.k,mx with
   | .str,none=>match bndO b.length b.length hi with
    | none=>none
    | some h=>match bndO h 0 lo with
     | none=>none
     | some l=>some (.d (.str ((b.take h).drop l)),o,nk)
   | _,_=>none
  | .d .nil=>match i.k with
   | .slice e=>match Θ e,mx,bndO 0 0 hi,bndO 0 0 lo with
    | some _,none,some 0,some 0=>some (.d .nil,o,nk)
    | _,_,_,_=>none
   | _=>none
  | .d (.sl z xs)=>match i.k with
   | .slice e=>match Θ e with
    | none=>none
    | some j=>if j.sz=z∧(mx.isNone=true∨hi.isNone=false) then match bndO xs.length xs.length mx with
     | none=>none
     | some m=>match bndO m m hi with
      | none=>none
      | some h=>match bndO h 0 lo with
       | none=>none
       | some l=>some (.d (.sl z ((xs.take h).drop l)),o,nk)
     else none
   | _=>none
  | .row q=>match i.k with
   | .slice e=>match Θ e with
    | none=>none
    | some j=>match o.get q,mx with
     | some (.row e' z xs),none=>if e'=e∧z=j.sz then match bndO xs.length xs.length hi with
      | none=>none
      | some h=>match bndO h 0 lo with
       | some 0=>some (.row nk,(o.set q none).set nk (some (.row e j.sz (xs.take h))),nk+1)
       | _=>none
      else none
     | _,_=>none
   | _=>none
  | _=>none
theorem xsl_ok {o:TM AO} {nk:Nat} {t:TypeId} {x:SV} {lo hi mx:Option SV} {r:SV} {o':TM AO} {nk':Nat} (h:xsl Θ o nk t x lo hi mx=some (r,o',nk')) {K:SV→(Nat→Option AO)→Nat→Prop} (hK:K r o'.get nk'):slOp Θ o.get nk t x lo hi mx K:=by
 unfold xsl at h;split at h
 ·cases h
 ·rename_i i hi';split at h
  ·split at h
   ·rename_i hk;split at h
    ·cases h
    ·rename_i m hm;split at h
     ·cases h
     ·rename_i l hl;simp only [Option.some.injEq,Prod.mk.injEq] at h;obtain ⟨rfl,rfl,rfl⟩:=h;exact ⟨⟨i,hi',hk⟩,rfl,m,l,hm,hl,hK⟩
   ·cases h
  ·split at h
   ·rename_i e hk;split at h
    ·rename_i j he h1 h2;simp only [Option.some.injEq,Prod.mk.injEq] at h;obtain ⟨rfl,rfl,rfl⟩:=h;exact ⟨⟨i,e,j,hi',hk,he⟩,.inl rfl,rfl,h1,h2,hK⟩
    ·cases h
   ·cases h
  ·split at h
   ·rename_i e hk;split at h
    ·cases h
    ·rename_i j hj;split at h
     ·rename_i hc;split at h
      ·cases h
      ·rename_i m hm;split at h
       ·cases h
       ·rename_i p hp;split at h
        ·cases h
        ·rename_i l hl;simp only [Option.some.injEq,Prod.mk.injEq] at h;obtain ⟨rfl,rfl,rfl⟩:=h;exact ⟨⟨i,e,j,hi',hk,hj,hc.1⟩,mxhi hc.2,m,p,l,hm,hp,hl,hK⟩
     ·cases h
   ·cases h
  ·split at h
   ·rename_i e hk;split at h
    ·cases h
    ·rename_i j hj;split at h
     ·rename_i hq;split at h
      ·rename_i hc;obtain ⟨rfl,rfl⟩:=hc;split at h
       ·cases h
       ·rename_i p hp;split at h
        ·rename_i hl;simp only [Option.some.injEq,Prod.mk.injEq] at h;obtain ⟨rfl,rfl,rfl⟩:=h;rw [TM.get_set,TM.get_set] at hK;exact ⟨i,_,j,_,p,hi',hk,hj,hq,rfl,hp,hl,hK⟩
        ·cases h
      ·cases h
     ·cases h
   ·cases h
  ·cases h
def xbs (o:TM AO) (nk:Nat) (t:TypeId) (n:Nat) (parts:List (Nat×SV)):Option XR:=
  match Θ t with
  | none=>none
  | some i=>match i.k with
    | .slice e=>match Θ e with
      | none=>none
      | some j=>match j.z with
        | none=>none
        | some l=>if l.length=j.sz∧0 < j.sz∧n * j.sz≤16777216 then match partsL j.sz 0 parts with
          | none=>none
          | some xs=>if xs.length=n then
              if n=0 then some (.row nk,o.set nk (some (.row e j.sz xs)),nk+1) else some (.dx j.sz xs,o,nk)
            else none
          else none
    | _=>none
theorem xbs_ok {o:TM AO} {nk:Nat} {t:TypeId} {n:Nat} {parts:List (Nat×SV)} {r:SV} {o':TM AO} {nk':Nat} (h:xbs Θ o nk t n parts=some (r,o',nk')) {K:SV→(Nat→Option AO)→Nat→Prop} (hK:K r o'.get nk'):bsOp Θ o.get nk t n parts K:=by
 unfold xbs at h;split at h
 ·cases h
 ·rename_i i hi;split at h
  ·rename_i e hk;split at h
   ·cases h
   ·rename_i j hj;split at h
    ·cases h
    ·rename_i l hz;split at h
     ·rename_i hc;split at h
      ·cases h
      ·rename_i xs hxs;split at h
       ·rename_i hn;refine ⟨i,e,j,l,xs,hi,hk,hj,hz,hc.1,hc.2.1,hxs,hn,hc.2.2,?_⟩;split at h
        ·rename_i h0;simp only [Option.some.injEq,Prod.mk.injEq] at h;obtain ⟨rfl,rfl,rfl⟩:=h;rw [if_pos h0];rw [TM.get_set] at hK;exact hK
        ·rename_i h0;simp only [Option.some.injEq,Prod.mk.injEq] at h;obtain ⟨rfl,rfl,rfl⟩:=h;rw [if_neg h0];exact .inr (.inl hK)
       ·cases h
     ·cases h
  ·cases h
def xbu (t:TypeId) (parts:List (Nat×SV)):Option SV:=
 match Θ t with
 | none=>none
 | some i=>match i.k with
  | .struct fs=>match i.z with
   | none=>none
   | some l=>(fillL (placeOf Θ fs) l parts).map fun ds=>.d (.agg ds)
  | _=>none
theorem xbu_ok {t:TypeId} {parts:List (Nat×SV)} {r:SV} (h:xbu Θ t parts=some r) {K:SV→Prop} (hK:K r):buOp Θ t parts K:=by
 unfold xbu at h;split at h
 ·cases h
 ·rename_i i hi;split at h
  ·rename_i fs hk;split at h
   ·cases h
   ·rename_i l hz;obtain ⟨ds,hd,rfl⟩:=Option.map_eq_some_iff.1 h;exact ⟨i,fs,l,ds,hi,hk,hz,hd,hK⟩
  ·cases h
def isStr:TK→Bool
 | .str=>true
 | _=>false
def isSl:TK→Bool
 | .slice _=>true
 | _=>false
theorem isStr_ok {k:TK} (h:isStr k=true):k=.str:=by cases k <;> simp_all [isStr]
theorem isSl_ok {k:TK} (h:isSl k=true):∃ e,k=.slice e:=by cases k <;> simp_all [isSl]
def xle (o:Nat→Option AO) (ts:List TypeId) (x:SV):Option SV:=
  match ts with
  | [t]=>match Θ t with
    | none=>none
    | some i=>match (match x with
        | .d (.str _)=>isStr i.k
        | _=>isSl i.k) with
      | true=>(lenD o x).map fun (n:Nat)=>SV.d (.int .i64 (n:Int))
      | false=>none
  | _=>none
theorem xle_ok {o:Nat→Option AO} {ts:Array TypeId} {x:SV} {r:SV} (h:xle Θ o ts.toList x=some r) {K:SV→Prop} (hK:K r):leOp Θ o ts x K:=by
 unfold xle at h;split at h
 ·rename_i t ht;have hts:ts=#[t]:=by cases ts;simp_all
  split at h
  ·cases h
  ·rename_i i hi;split at h
   ·rename_i hc;obtain ⟨n,hn,rfl⟩:=Option.map_eq_some_iff.1 h;refine ⟨t,i,hts,hi,?_,n,hn,hK⟩;split at hc
    ·exact isStr_ok hc
    ·rename_i hx;split
     ·rename_i b;exact absurd rfl (hx b)
     ·exact isSl_ok hc
   ·cases h
 ·cases h
def apSrc (o:Nat→Option AO) (t u:TypeId) (j:TI) (l:List D) (y:SV):Option (List D):=
 match y with
 | .d (.str b)=>match Θ u with
  | none=>none
  | some v=>match v.k,j.k,l with
   | .str,.int .u8,[.int .u8 0]=>if j.sz=1∧j.bys=1 then some (b.map fun (c:UInt8)=>D.int .u8 (c.toNat:Int)) else none
   | _,_,_=>none
 | y=>if u=t then srcOf o j.sz y else none
def xap (o:TM AO) (nk:Nat) (ts:List TypeId) (x y:SV):Option XR:=
  match ts with
  | [t,u]=>match Θ t with
    | none=>none
    | some i=>match i.k with
      | .slice e=>match Θ e with
        | none=>none
        | some j=>match j.z with
          | none=>none
          | some l=>match dstOf o.get e j.sz x with
            | none=>none
            | some (q,xs)=>match apSrc Θ o.get t u j l y with
              | none=>none
              | some ys=>if l.length=j.sz∧0 < j.sz∧xs.length+ys.length≤9223372036854775807∧(xs.length+ys.length) * j.bys≤140737488355328 then
                  some (.row nk,(match q with
                    | none=>o
                    | some t=>o.set t none).set nk (some (.row e j.sz (xs++ys))),nk+1)
                else none
      | _=>none
  | _=>none
theorem xap_ok {o:TM AO} {nk:Nat} {ts:Array TypeId} {x y:SV} {r:SV} {o':TM AO} {nk':Nat} (h:xap Θ o nk ts.toList x y=some (r,o',nk')) {K:SV→(Nat→Option AO)→Nat→Prop} (hK:K r o'.get nk'):apOp Θ o.get nk ts x y K:=by
 unfold xap at h;split at h
 ·rename_i t u ht;have hts:ts=#[t,u]:=by cases ts;simp_all
  split at h
  ·cases h
  ·rename_i i hi;split at h
   ·rename_i e hk;split at h
    ·cases h
    ·rename_i j hj;split at h
     ·cases h
     ·rename_i l hz;split at h
      ·cases h
      ·rename_i q xs hd;split at h
       ·cases h
       ·rename_i ys hys;split at h
        ·rename_i hc;simp only [Option.some.injEq,Prod.mk.injEq] at h;obtain ⟨rfl,rfl,rfl⟩:=h;refine ⟨t,u,i,e,j,l,q,xs,ys,hts,hi,hk,hj,hz,hc.1,hc.2.1,hd,?_,hc.2.2.1,hc.2.2.2,?_⟩
         ·unfold apSrc at hys;split at hys
          ·split at hys
           ·cases hys
           ·rename_i v hv;split at hys
            ·rename_i _ h1 h2;split at hys
             ·rename_i h4;simp only [Option.some.injEq] at hys;subst hys;exact ⟨⟨v,hv,h1⟩,h2,h4.1,h4.2,rfl,rfl⟩
             ·cases hys
            ·cases hys
          ·rename_i hx;split at hys
           ·rename_i hu;split
            ·rename_i b;exact absurd rfl (hx b)
            ·exact ⟨hu,hys⟩
           ·cases hys
         ·rw [TM.get_set] at hK;cases q with
          | none=>exact hK
          | some q=>rw [TM.get_set] at hK;exact hK
        ·cases h
   ·cases h
 ·cases h
def xev (s:XS):Operand→SV
 | .tmp t=>match s.sl.get t with
  | some v=>v
  | none=>.any
 | .const v=>cst v
 | .func f=>.clo f [] []
 | .global _=>.any
theorem xev_eq (s:XS) (x:Operand):xev s x=ev s.st.sl x:=by
 cases x <;> simp only [xev,ev,XS.st]
 split <;> simp_all
def itAt:RO→Option (List UInt8×Nat)
 | .ob (.stringIter b pos)=>some (b.data.toList,pos)
 | _=>none
theorem itAt_ok {ob:RO} {l:List UInt8} {pos:Nat} (h:itAt ob=some (l,pos)):ob=itOb l pos:=by
 unfold itAt at h;split at h
 ·rename_i b p;simp only [Option.some.injEq,Prod.mk.injEq] at h;obtain ⟨rfl,rfl⟩:=h;obtain ⟨⟨a⟩⟩:=b;rfl
 ·cases h
def xOp0 (op:Op) (s:XS):Option XR:=
 match op with
 | .move x=>some (xev s x,s.o,s.nk)
 | .assign x=>some (xev s x,s.o,s.nk)
 | .pick c x y=>match xev s c with
  | .d (.bool true)=>some (xev s x,s.o,s.nk)
  | .d (.bool false)=>some (xev s y,s.o,s.nk)
  | _=>none
 | .alloc e=>match Θ e with
  | none=>none
  | some i=>match i.z with
   | none=>none
   | some l=>some (.loc s.nk 0,s.o.set s.nk (some (.box (l.map .d))),s.nk+1)
 | .box e x=>match (xev s x).cells s.o.get with
  | none=>none
  | some cs=>some (.loc s.nk 0,s.o.set s.nk (some (.box cs)),s.nk+1)
 | .build t parts=>(xbu Θ t (parts.toList.map fun p=>(p.1,xev s p.2))).map fun v=>(v,s.o,s.nk)
 | .buildSlice t n parts=>xbs Θ s.o s.nk t n (parts.toList.map fun p=>(p.1,(xev s p.2)))
 | .load t x=>(xld Θ s.o.get t (xev s x)).map fun v=>(v,s.o,s.nk)
 | .store t x y=>(xst Θ s.o t (xev s x) (xev s y)).map fun o'=>(.any,o',s.nk)
 | .nilCheck x=>match xev s x with
  | .loc k f=>match s.o.get k with
   | some (.box _)=>some (.loc k f,s.o,s.nk)
   | _=>none
  | .el x=>some (.el x,s.o,s.nk)
  | .clo a b c=>some (.clo a b c,s.o,s.nk)
  | _=>none
 | .binOp b t x y _=>(xbn Θ s.o.get b t (xev s x) (xev s y)).map fun v=>(.d v,s.o,s.nk)
 | .unOp b _ x=>(unOpD b (xev s x)).map fun v=>(.d v,s.o,s.nk)
 | .convert src dst x=>(xco Θ s.o.get src dst (xev s x)).map fun v=>(v,s.o,s.nk)
 | .makeFunc fn fs cs=>match fn with
  | .func f=>some (.clo f (fs.toList.map (xev s)) (cs.toList.map (xev s)),s.o,s.nk)
  | _=>none
 | .slice t x lo hi mx=>xsl Θ s.o s.nk t (xev s x) (lo.map (xev s)) (hi.map (xev s)) (mx.map (xev s))
 | .fieldAddr t x f=>(xfd Θ s.o.get t (xev s x) f).map fun v=>(v,s.o,s.nk)
 | .field t x f=>(xfv Θ t (xev s x) f).map fun v=>(v,s.o,s.nk)
 | .indexAddr t x ix=>(xix Θ s.o.get t (xev s x) (xev s ix)).map fun v=>(v,s.o,s.nk)
 | .index t x ix=>match Θ t with
  | none=>none
  | some i=>match i.k,xev s x,xev s ix with
   | .str,.d (.str l),.d (.int _ n)=>if 0≤n∧n.toNat < l.length then some (.d (.int .u8 (bAt l n.toNat)),s.o,s.nk) else none
   | _,_,_=>none
 | .extract x q=>match xev s x with
  | .tup xs=>(xs[q]?).map fun c=>(c,s.o,s.nk)
  | _=>none
 | .call c=>match c.callee with
  | .builtin b=>match b,c.args.toList with
   | .len,[x]=>(xle Θ s.o.get c.argTypes.toList (xev s x)).map fun v=>(v,s.o,s.nk)
   | .append,[x,y]=>xap Θ s.o s.nk c.argTypes.toList (xev s x) (xev s y)
   | .max,[x,y]=>(mmD true (xev s x) (xev s y)).map fun v=>(.d v,s.o,s.nk)
   | .min,[x,y]=>(mmD false (xev s x) (xev s y)).map fun v=>(.d v,s.o,s.nk)
   | _,_=>none
  | .value x=>match xev s x with
   | .clo f fs cs=>call f (fs++c.args.toList.map (xev s)++cs) s.o s.nk
   | _=>none
  | _=>none
 | .range t x=>match Θ t with
  | none=>none
  | some i=>match i.k,xev s x with
   | .str,.d (.str l)=>some (.raw s.nk,s.o.set s.nk (some (.raw (itOb l 0))),s.nk+1)
   | _,_=>none
 | .next x true=>match xev s x with
  | .raw k=>match s.o.get k with
   | some (.raw ob)=>match itAt ob with
    | none=>none
    | some (l,pos)=>if pos < l.length then some (.tup [.d (.bool true),.d (.int .i64 pos),.d (.int .i32 (Utf8.decode ⟨l.toArray⟩ pos).1)],s.o.set k (some (.raw (itOb l (pos+(Utf8.decode ⟨l.toArray⟩ pos).2)))),s.nk)
     else some (.tup [.d (.bool false)],s.o,s.nk)
   | _=>none
  | _=>none
 | _=>none
end
theorem xOp0_ok {P:Program} {Θ:Tab} {call:Nat→List SV→TM AO→Nat→Option XR} (hc:∀ f asx o nk r o' nk',call f asx o nk=some (r,o',nk')→Spec P f asx o.get nk fun r2 o2 n2=>r2=r∧o2=o'.get∧n2=nk')
    {op:Op} {s:XS} {r:SV} {o':TM AO} {nk':Nat} (h:xOp0 Θ call op s=some (r,o',nk')) {K:SV→(Nat→Option AO)→Nat→Prop} (hK:K r o'.get nk'):vOp0 P Θ op s.st K:=by
  have hev:∀ x,xev s x=ev s.st.sl x:=xev_eq s;have hev2:xev s=ev s.st.sl:=funext hev;have ho:s.st.o=s.o.get:=rfl;have hn:s.st.nk=s.nk:=rfl;have mp:∀ {α:Type} {x:Option α} {f:α→XR},x.map f=some (r,o',nk')→∃ v,x=some v∧f v=(r,o',nk'):=fun h=>by simpa using h
  unfold xOp0 at h;simp only [hev2] at h;cases op with
  | move x=>simp only [Option.some.injEq,Prod.mk.injEq] at h;obtain ⟨rfl,rfl,rfl⟩:=h;exact hK
  | assign x=>simp only [Option.some.injEq,Prod.mk.injEq] at h;obtain ⟨rfl,rfl,rfl⟩:=h;exact hK
  | pick c x y=>
    simp only at h;split at h
    · rename_i hb;simp only [Option.some.injEq,Prod.mk.injEq] at h;obtain ⟨rfl,rfl,rfl⟩:=h;exact ⟨true,hb,hK⟩
    · rename_i hb;simp only [Option.some.injEq,Prod.mk.injEq] at h;obtain ⟨rfl,rfl,rfl⟩:=h;exact ⟨false,hb,hK⟩
    · cases h
  | alloc e=>
    simp only at h;split at h
    · cases h
    · rename_i i hi;split at h
      · cases h
      · rename_i l hz;simp only [Option.some.injEq,Prod.mk.injEq] at h;obtain ⟨rfl,rfl,rfl⟩:=h;rw [TM.get_set] at hK;exact ⟨i,l,hi,hz,hK⟩
  | box e x=>
    simp only at h;split at h
    · cases h
    · rename_i cs hcs;simp only [Option.some.injEq,Prod.mk.injEq] at h;obtain ⟨rfl,rfl,rfl⟩:=h;rw [TM.get_set] at hK;exact ⟨cs,hcs,hK⟩
  | build t parts=>
    simp only at h;obtain ⟨v,h1,h2⟩:=mp h;simp only [Prod.mk.injEq] at h2;obtain ⟨rfl,rfl,rfl⟩:=h2;exact xbu_ok Θ h1 (K:=fun v=>K v s.st.o s.st.nk) hK
  | buildSlice t n parts=>exact xbs_ok Θ h hK
  | load t x=>
    simp only at h;obtain ⟨v,h1,h2⟩:=mp h;simp only [Prod.mk.injEq] at h2;obtain ⟨rfl,rfl,rfl⟩:=h2;exact xld_ok Θ h1 (K:=fun v=>K v s.st.o s.st.nk) hK
  | store t x y=>
    simp only at h;obtain ⟨v,h1,h2⟩:=mp h;simp only [Prod.mk.injEq] at h2;obtain ⟨rfl,rfl,rfl⟩:=h2;exact xst_ok Θ h1 (K:=fun o'=>K .any o' s.st.nk) hK
  | nilCheck x=>
    simp only at h;split at h
    · rename_i k f hx;split at h
      · rename_i cs hcs;simp only [Option.some.injEq,Prod.mk.injEq] at h;obtain ⟨rfl,rfl,rfl⟩:=h;exact ⟨by rw [hx];exact ⟨_,hcs⟩,by rw [hx];exact hK⟩
      · cases h
    · rename_i y hx;simp only [Option.some.injEq,Prod.mk.injEq] at h;obtain ⟨rfl,rfl,rfl⟩:=h;exact ⟨by rw [hx];trivial,by rw [hx];exact hK⟩
    · rename_i a b c hx;simp only [Option.some.injEq,Prod.mk.injEq] at h;obtain ⟨rfl,rfl,rfl⟩:=h;exact ⟨by rw [hx];trivial,by rw [hx];exact hK⟩
    · cases h
  | binOp b t x y u=>
    simp only at h;obtain ⟨v,h1,h2⟩:=mp h;simp only [Prod.mk.injEq] at h2;obtain ⟨rfl,rfl,rfl⟩:=h2;exact xbn_ok Θ h1 (K:=fun v=>K v s.st.o s.st.nk) hK
  | unOp b t x=>
    simp only at h;obtain ⟨v,h1,h2⟩:=mp h;simp only [Prod.mk.injEq] at h2;obtain ⟨rfl,rfl,rfl⟩:=h2;exact ⟨v,h1,hK⟩
  | convert src dst x=>
    simp only at h;obtain ⟨v,h1,h2⟩:=mp h;simp only [Prod.mk.injEq] at h2;obtain ⟨rfl,rfl,rfl⟩:=h2;exact xco_ok Θ h1 (K:=fun v=>K v s.st.o s.st.nk) hK
  | makeFunc fn fs cs=>
    cases fn with
    | func f=>
      simp only [Option.some.injEq,Prod.mk.injEq] at h;obtain ⟨rfl,rfl,rfl⟩:=h;exact hK
    | _=>cases h
  | slice t x lo hi mx=>exact xsl_ok Θ h hK
  | fieldAddr t x f=>
    simp only at h;obtain ⟨v,h1,h2⟩:=mp h;simp only [Prod.mk.injEq] at h2;obtain ⟨rfl,rfl,rfl⟩:=h2;exact xfd_ok Θ h1 (K:=fun v=>K v s.st.o s.st.nk) hK
  | field t x f=>
    simp only at h;obtain ⟨v,h1,h2⟩:=mp h;simp only [Prod.mk.injEq] at h2;obtain ⟨rfl,rfl,rfl⟩:=h2;exact xfv_ok Θ h1 (K:=fun v=>K v s.st.o s.st.nk) hK
  | indexAddr t x ix=>
    simp only at h;obtain ⟨v,h1,h2⟩:=mp h;simp only [Prod.mk.injEq] at h2;obtain ⟨rfl,rfl,rfl⟩:=h2;exact xix_ok Θ h1 (K:=fun v=>K v s.st.o s.st.nk) hK
  | index t x ix=>
    simp only at h;split at h
    · cases h
    · rename_i i hi;split at h
      · rename_i h1 h2 h3;split at h
        · rename_i hb;simp only [Option.some.injEq,Prod.mk.injEq] at h;obtain ⟨rfl,rfl,rfl⟩:=h;exact ⟨i,_,_,_,hi,h1,h2,h3,hb.1,hb.2,hK⟩
        · cases h
      · cases h
  | extract x q=>
    simp only at h;split at h
    · rename_i xs hx;obtain ⟨v,h1,h2⟩:=mp h;simp only [Prod.mk.injEq] at h2;obtain ⟨rfl,rfl,rfl⟩:=h2;exact ⟨xs,_,hx,h1,hK⟩
    · cases h
  | call c=>
    obtain ⟨callee,asx,ts⟩:=c;simp only at h;cases callee with
    | builtin b=>
      simp only at h;show blOp Θ s.st b ts asx.toList K;split at h
      · rename_i x hx;obtain ⟨v,h1,h2⟩:=mp h;simp only [Prod.mk.injEq] at h2;obtain ⟨rfl,rfl,rfl⟩:=h2;rw [hx];exact xle_ok Θ h1 (K:=fun v=>K v s.st.o s.st.nk) hK
      · rename_i x y hx;rw [hx];exact xap_ok Θ h hK
      · rename_i x y hx;obtain ⟨v,h1,h2⟩:=mp h;simp only [Prod.mk.injEq] at h2;obtain ⟨rfl,rfl,rfl⟩:=h2;rw [hx];exact ⟨v,h1,hK⟩
      · rename_i x y hx;obtain ⟨v,h1,h2⟩:=mp h;simp only [Prod.mk.injEq] at h2;obtain ⟨rfl,rfl,rfl⟩:=h2;rw [hx];exact ⟨v,h1,hK⟩
      · cases h
    | value x=>
      simp only at h;split at h
      · rename_i f fs cs hx;refine ⟨f,fs,cs,hx,?_⟩;exact (hc _ _ _ _ _ _ _ h).mono (by rintro r2 o2 n2 ⟨rfl,rfl,rfl⟩;exact hK)
      · cases h
    | _=>cases h
  | range t x=>
    simp only at h;split at h
    · cases h
    · rename_i i hi;split at h
      · rename_i h1 h2;simp only [Option.some.injEq,Prod.mk.injEq] at h;obtain ⟨rfl,rfl,rfl⟩:=h;rw [TM.get_set] at hK;exact ⟨i,_,hi,h1,h2,hK⟩
      · cases h
  | next x b=>
    cases b with
    | false=>cases h
    | true=>
      simp only at h;split at h
      · rename_i k hx;split at h
        · rename_i ob hq;split at h
          · cases h
          · rename_i l pos hit;have hob:=itAt_ok hit;subst hob;split at h
            · rename_i hlt;simp only [Option.some.injEq,Prod.mk.injEq] at h;obtain ⟨rfl,rfl,rfl⟩:=h;rw [TM.get_set] at hK;refine ⟨rfl,k,l,pos,hx,hq,?_⟩;rw [if_pos hlt];exact hK
            · rename_i hlt;simp only [Option.some.injEq,Prod.mk.injEq] at h;obtain ⟨rfl,rfl,rfl⟩:=h;refine ⟨rfl,k,l,pos,hx,hq,?_⟩;rw [if_neg hlt];exact hK
        · cases h
      · cases h
  | _=>cases h
def setO2 (o:TM AO):List (Nat×Option AO)→TM AO
 | []=>o
 | (k,x) :: r=>setO2 (o.set k x) r
theorem setO2_get:∀ (l:List (Nat×Option AO)) (o:TM AO),(setO2 o l).get=upds o.get l
 | [],o=>rfl
 | (k,x) :: r,o=>by rw [setO2,setO2_get r,TM.get_set];rfl
def xOp (Θ:Tab) (call:Nat→List SV→TM AO→Nat→Option XR) (op:Op) (s:XS):Option XR:=
 match nQ Θ op (xev s) s.o.get with
 | some v=>some (v,s.o,s.nk)
 | none=>match nW0 Θ op (xev s) s.o.get s.nk with
  | some (v,l,nk')=>some (v,setO2 s.o l,nk')
  | none=>match xOp0 Θ call op s with
   | some r=>some r
   | none=>match nWF Θ op (xev s) s.o.get s.nk op.operands.toList with
    | some (v,l,nk')=>some (v,setO2 s.o l,nk')
    | none=>none
theorem xOp_ok {P:Program} {Θ:Tab} {call:Nat→List SV→TM AO→Nat→Option XR} (hc:∀ f asx o nk r o' nk',call f asx o nk=some (r,o',nk')→Spec P f asx o.get nk fun r2 o2 n2=>r2=r∧o2=o'.get∧n2=nk')
    {op:Op} {s:XS} {r:SV} {o':TM AO} {nk':Nat} (h:xOp Θ call op s=some (r,o',nk')) {K:SV→(Nat→Option AO)→Nat→Prop} (hK:K r o'.get nk'):vOp P Θ op s.st K:=by
  have hev:xev s=ev s.st.sl:=funext (xev_eq s);unfold xOp at h;rw [hev] at h;split at h
  · rename_i v hv;simp only [Option.some.injEq,Prod.mk.injEq] at h;obtain ⟨rfl,rfl,rfl⟩:=h;exact .inr (.inl ⟨_,hv,hK⟩)
  · split at h
    · rename_i v l nk2 hv;simp only [Option.some.injEq,Prod.mk.injEq] at h;obtain ⟨rfl,rfl,rfl⟩:=h;refine .inr (.inr ⟨_,nW_of0 hv,?_⟩);rw [setO2_get] at hK;exact hK
    · rename_i hn;split at h
      · rename_i r0 h0;simp only [Option.some.injEq] at h;subst h;exact .inl (xOp0_ok hc h0 hK)
      · split at h
        · rename_i v l nk2 hv;simp only [Option.some.injEq,Prod.mk.injEq] at h;obtain ⟨rfl,rfl,rfl⟩:=h;refine .inr (.inr ⟨_,nW_ofF hn hv,?_⟩);rw [setO2_get] at hK;exact hK
        · cases h
def D.els : D → List D
  | .sl _ xs => xs
  | .v n => [.seg n]
  | _ => []
mutual
def D.si (σ : Nat → D) : D → D
  | .v n => σ n
  | .sl z xs => .sl z (D.sis σ xs)
  | .agg xs => .agg (D.sia σ xs)
  | .int k n => .int k n
  | .bool b => .bool b
  | .str s => .str s
  | .nilp => .nilp
  | .nil => .nil
  | .nilk k => .nilk k
  | .seg n => .seg n
def D.sia (σ : Nat → D) : List D → List D
  | [] => []
  | x :: r => D.si σ x :: D.sia σ r
def D.sis (σ : Nat → D) : List D → List D
  | [] => []
  | x :: r => match x with
    | .seg n => (σ n).els ++ D.sis σ r
    | x => D.si σ x :: D.sis σ r
end
def notSeg : D → Bool
  | .seg _ => false
  | _ => true
def nsg (xs : List D) : Bool := xs.all notSeg
theorem D.sia_map (σ : Nat → D) : ∀ xs : List D, D.sia σ xs = xs.map (D.si σ)
  | [] => by simp [D.sia]
  | x :: r => by simp [D.sia, D.sia_map σ r]
theorem D.sis_map (σ : Nat → D) : ∀ xs : List D, nsg xs = true → D.sis σ xs = xs.map (D.si σ)
  | [], _ => by simp [D.sis]
  | x :: r, h => by
    simp only [nsg, List.all_cons, Bool.and_eq_true] at h
    have ih := D.sis_map σ r h.2
    cases x <;> simp_all [D.sis, notSeg]
theorem D.sis_app (σ : Nat → D) : ∀ xs ys : List D, D.sis σ (xs ++ ys) = D.sis σ xs ++ D.sis σ ys
  | [], ys => by simp [D.sis]
  | x :: r, ys => by
    have ih := D.sis_app σ r ys
    cases x <;> simp [D.sis, ih]
def Lf (σ : Nat → D) : Prop := ∀ n, (σ n).leaf = true
theorem D.si_leaf {σ : Nat → D} (h : Lf σ) (x : D) : (x.si σ).leaf = x.leaf := by
  cases x <;> simp only [D.si, D.leaf]
  exact h _
theorem leaf_width {x : D} (h : x.leaf = true) : x.width = 1 := by cases x <;> simp_all [D.leaf, D.width]
theorem D.si_width {σ : Nat → D} (h : Lf σ) (x : D) : (x.si σ).width = x.width := by
  cases x <;> simp only [D.si, D.width, D.sia_map, List.length_map]
  exact leaf_width (h _)
mutual
def SV.si (σ : Nat → D) : SV → SV
  | .d x => .d (x.si σ)
  | .el x => .el (x.si σ)
  | .clo f a b => .clo f (SV.sil σ a) (SV.sil σ b)
  | .tup xs => .tup (SV.sil σ xs)
  | .ag xs => .ag (SV.sil σ xs)
  | .dx z xs => .dx z (D.sis σ xs)
  | .loc t f => .loc t f
  | .row t => .row t
  | .rel t j f => .rel t j f
  | .raw t => .raw t
  | .any => .any
  | .view t l n c => .view t l n c
def SV.sil (σ : Nat → D) : List SV → List SV
  | [] => []
  | x :: r => SV.si σ x :: SV.sil σ r
end
theorem SV.sil_map (σ : Nat → D) : ∀ xs : List SV, SV.sil σ xs = xs.map (SV.si σ)
  | [] => by simp [SV.sil]
  | x :: r => by simp [SV.sil, SV.sil_map σ r]
def RO.si (σ : Nat → D) : RO → RO
  | .ob o => .ob o
  | .map kvs => .map (kvs.map fun p => (p.1.si σ, p.2.si σ))
def AO.si (σ : Nat → D) : AO → AO
  | .box cs => .box (cs.map (SV.si σ))
  | .row e z xs => .row e z (D.sis σ xs)
  | .raw ob => .raw (ob.si σ)
def osi (σ : Nat → D) (o : Nat → Option AO) : Nat → Option AO := fun k => (o k).map (AO.si σ)
def XS.si (σ : Nat → D) (s : XS) : XS := ⟨s.sl.mapT (SV.si σ), s.o.mapT (AO.si σ), s.nk⟩
namespace TM
theorem mapT_put {α : Type} (f : α → α) (v : Option α) : ∀ (d : Nat) (t : TM α) (k : Nat), mapT f (put v d t k) = put (v.map f) d (mapT f t) k
  | 0, t, k => rfl
  | d + 1, .e, 0 => by cases v <;> simp [put, mapT, seq]
  | d + 1, .n u l r, 0 => by cases v <;> cases u <;> simp [put, mapT, seq_eq]
  | d + 1, .e, k + 1 => by
    have ih := mapT_put f v d .e (k / 2)
    simp only [put, mapT, beq_cond, seq_eq] at ih ⊢
    split <;> simp [mapT, seq_eq, ih]
  | d + 1, .n u l r, k + 1 => by
    have ih1 := mapT_put f v d l (k / 2)
    have ih2 := mapT_put f v d r (k / 2)
    simp only [put, beq_cond, seq_eq]
    split <;> cases u <;> simp_all [mapT, seq_eq, put, beq_cond]
theorem mapT_set {α : Type} (f : α → α) (t : TM α) (k : Nat) (v : Option α) : mapT f (t.set k v) = (mapT f t).set k (v.map f) := mapT_put f v _ t k
end TM
theorem XS.si_o (σ : Nat → D) (s : XS) : (s.si σ).o.get = osi σ s.o.get := by funext k; simp only [XS.si, TM.get_mapT, osi]
mutual
def D.gr : D → Bool
  | .v _ => false
  | .seg _ => false
  | .sl _ xs => D.grs xs
  | .agg xs => D.grs xs
  | .int _ _ => true
  | .bool _ => true
  | .str _ => true
  | .nilp => true
  | .nil => true
  | .nilk _ => true
def D.grs : List D → Bool
  | [] => true
  | x :: r => D.gr x && D.grs r
end
mutual
theorem D.si_gr {σ : Nat → D} : ∀ x : D, x.gr = true → x.si σ = x
  | .v _, h => by simp [D.gr] at h
  | .seg _, h => by simp [D.gr] at h
  | .sl z xs, h => by simp only [D.gr] at h; simp only [D.si]; rw [(D.sis_gr xs h).1]
  | .agg xs, h => by simp only [D.gr] at h; simp only [D.si]; rw [(D.sis_gr xs h).2]
  | .int _ _, _ => by simp [D.si]
  | .bool _, _ => by simp [D.si]
  | .str _, _ => by simp [D.si]
  | .nilp, _ => by simp [D.si]
  | .nil, _ => by simp [D.si]
  | .nilk _, _ => by simp [D.si]
theorem D.sis_gr {σ : Nat → D} : ∀ xs : List D, D.grs xs = true → D.sis σ xs = xs ∧ D.sia σ xs = xs
  | [], _ => by simp [D.sis, D.sia]
  | x :: r, h => by
    simp only [D.grs, Bool.and_eq_true] at h
    have h1 := D.si_gr (σ := σ) x h.1
    have h2 := D.sis_gr (σ := σ) r h.2
    refine ⟨?_, by simp [D.sia, h1, h2.2]⟩
    cases x <;> first | (simp [D.gr] at h; done) | simp_all [D.sis]
end
theorem D.grs_all : ∀ {xs : List D}, D.grs xs = true ↔ ∀ x ∈ xs, x.gr = true
  | [] => by simp [D.grs]
  | x :: r => by simp [D.grs, D.grs_all (xs := r)]
theorem map_gr {σ : Nat → D} {xs : List D} (h : D.grs xs = true) : xs.map (D.si σ) = xs := by rw [← D.sia_map]; exact (D.sis_gr xs h).2
theorem map_gr2 {σ : Nat → D} {xs : List D} (h : D.grs xs = true) : (xs.map SV.d).map (SV.si σ) = xs.map .d := by
  rw [List.map_map]
  apply List.map_congr_left
  intro x hx
  simp [SV.si, D.si_gr (σ := σ) x (D.grs_all.1 h x hx)]
variable {σ : Nat → D}
theorem cst_si (v : Value) : (cst v).si σ = cst v := by
  unfold cst
  split <;> (try split) <;> simp [SV.si, D.si]
theorem xev_si (s : XS) : xev (s.si σ) = fun x => (xev s x).si σ := by
  funext x
  cases x with
  | tmp t =>
    simp only [xev, XS.si, TM.get_mapT]
    cases s.sl.get t <;> simp [SV.si]
  | const v => simp [xev, cst_si]
  | func f => simp [xev, SV.si, SV.sil]
  | global g => simp [xev, SV.si]
theorem allD_si : ∀ cs : List SV, allD (cs.map (SV.si σ)) = (allD cs).map (List.map (D.si σ))
  | [] => by simp [allD]
  | c :: r => by
    have ih := allD_si r
    cases c <;> simp [allD, SV.si, ih]
    cases allD r <;> simp
theorem leaf_all (hl : Lf σ) (ds : List D) : (ds.map (D.si σ)).all D.leaf = ds.all D.leaf := by
  rw [List.all_map]
  congr 1
  funext x
  exact D.si_leaf hl x
theorem oneC_si (hl : Lf σ) {o : Nat → Option AO} (c : SV) : oneC (osi σ o) (c.si σ) = oneC o c := by
  cases c <;> simp only [oneC, SV.si, D.si_leaf hl, osi]
  · rename_i t f; cases o t with
    | none => rfl
    | some a => cases a <;> rfl
  · rename_i t; cases o t with
    | none => rfl
    | some a => cases a <;> rfl
theorem oneX_si (hl : Lf σ) {o : Nat → Option AO} (c : SV) : oneX (osi σ o) (c.si σ) = oneX o c := by
  cases c <;> simp only [oneX, SV.si, D.si_leaf hl]
  rename_i t f; exact oneC_si (σ := σ) hl (.loc t f)
theorem all_si {p q : SV → Bool} (h : ∀ c, q (c.si σ) = p c) (cs : List SV) : (cs.map (SV.si σ)).all q = cs.all p := by
  rw [List.all_map]; congr 1; funext c; exact h c
theorem cells_si (hl : Lf σ) {o : Nat → Option AO} {x : SV} {ys : List SV} (h : x.cells o = some ys) : (x.si σ).cells (osi σ o) = some (ys.map (SV.si σ)) := by
  cases x with
  | d x =>
    cases x with
    | agg xs =>
      simp only [SV.cells, Option.some.injEq] at h; subst h
      simp [SV.si, D.si, SV.cells, D.sia_map]
    | v n =>
      simp only [SV.cells, Option.some.injEq] at h; subst h
      have := hl n
      simp only [SV.si, D.si, List.map_cons, List.map_nil]
      cases hn : σ n <;> simp_all [SV.cells, D.leaf]
    | _ => simp only [SV.cells, Option.some.injEq] at h; subst h; simp [SV.si, D.si, SV.cells]
  | tup xs => simp [SV.cells] at h
  | any => simp [SV.cells] at h
  | rel t j f => simp [SV.cells] at h
  | clo f a b => simp only [SV.cells, Option.some.injEq] at h; subst h; simp [SV.si, SV.cells]
  | el x => simp only [SV.cells, Option.some.injEq] at h; subst h; simp [SV.si, SV.cells]
  | dx z xs => simp only [SV.cells, Option.some.injEq] at h; subst h; simp [SV.si, SV.cells]
  | ag xs => simp only [SV.cells, Option.some.injEq] at h; subst h; simp [SV.si, SV.cells, SV.sil_map]
  | _ =>
    simp only [SV.cells] at h
    split at h
    · rename_i hq
      simp only [Option.some.injEq] at h; subst h
      simp [SV.si, SV.cells, osi, hq, AO.si]
    · cases h
section
variable {Θ : Tab} {o : Nat → Option AO} {t : TypeId} {x : SV}
theorem sub_si (hl : Lf σ) {y : D} {off sz : Nat} {ag : Bool} {r : D} (h : y.sub off sz ag = some r) : (y.si σ).sub off sz ag = some (r.si σ) := by
  cases y <;> simp only [D.sub] at h <;> try (cases h; done)
  rename_i xs
  simp only [D.si, D.sia_map, D.sub, List.length_map]
  split at h
  · rename_i ha
    rw [if_pos ha]
    split at h
    · rename_i hle
      rw [if_pos hle]
      simp only [Option.some.injEq] at h; subst h
      simp [D.si, D.sia_map]
    · cases h
  · rename_i ha
    rw [if_neg ha, List.getElem?_map, h]; rfl
theorem at_si (hl : Lf σ) {y : D} {f sz : Nat} {ag : Bool} {r : D} (h : D.at f sz ag y = some r) : D.at f sz ag (y.si σ) = some (r.si σ) := by
  unfold D.at at h ⊢
  rw [D.si_leaf hl, D.si_width hl]
  split at h
  · rename_i hc
    rw [if_pos hc]; simp only [Option.some.injEq] at h; rw [h]
  · rename_i hc
    rw [if_neg hc]
    split at h
    · rename_i u hu
      rw [sub_si hl hu]
      simp only [D.si_leaf hl, D.si_width hl]
      split at h
      · rename_i hc2
        rw [if_pos hc2]; simp only [Option.some.injEq] at h; rw [h]
      · cases h
    · cases h
def putLf (f : Nat) (ys : List D) : Option D :=
  match f, ys with
  | 0, [y] => if y.leaf = true then some y else none
  | _, _ => none
theorem put_leaf {y : D} (h : y.leaf = true) (f : Nat) (ys : List D) : D.put f ys y = putLf f ys := by
  cases y <;> first | rfl | (simp [D.leaf] at h)
theorem put_si (hl : Lf σ) {y : D} {f : Nat} {ys : List D} {r : D} (h : D.put f ys y = some r) : D.put f (ys.map (D.si σ)) (y.si σ) = some (r.si σ) := by
  cases hy : y.leaf with
  | true =>
    rw [put_leaf hy] at h
    rw [put_leaf ((D.si_leaf hl y).trans hy)]
    unfold putLf at h ⊢
    split at h
    · rename_i u
      simp only [List.map_cons, List.map_nil, D.si_leaf hl] at h ⊢
      split at h
      · rename_i hc; rw [if_pos hc]; simp only [Option.some.injEq] at h; rw [h]
      · cases h
    · cases h
  | false =>
    cases y <;> simp only [D.leaf, Bool.true_eq_false, reduceCtorEq] at hy
    rename_i cs
    simp only [D.put] at h
    simp only [D.si, D.sia_map, D.put, List.length_map, leaf_all hl]
    split at h
    · rename_i hc
      rw [if_pos hc]; simp only [Option.some.injEq] at h; subst h
      simp [D.si, D.sia_map]
    · cases h
theorem xld_si (hl : Lf σ) {r : SV} (h : xld Θ o t x = some r) : xld Θ (osi σ o) t (x.si σ) = some (r.si σ) := by
  unfold xld at h ⊢
  split at h
  · cases h
  · rename_i i hi
    cases x with
    | loc k f =>
      simp only [SV.si] at h ⊢
      split at h
      · rename_i cs hcs
        simp only [osi, hcs, Option.map_some, AO.si]
        split at h
        · rename_i ha
          simp only [← List.map_drop, ← List.map_take, allD_si]
          split at h
          · rename_i ds hds
            split at h
            · rename_i hc
              simp only [Option.some.injEq] at h; subst h
              simp only [hds, Option.map_some, List.length_map, leaf_all hl]
              rw [if_pos hc]; simp [SV.si, D.si, D.sia_map]
            · cases h
          · rename_i hds
            split at h
            · rename_i hc
              simp only [Option.some.injEq] at h; subst h
              have e := all_si (σ := σ) (q := oneX (osi σ o)) (p := oneX o) (fun c => oneX_si hl c) ((cs.drop f).take i.sz)
              simp only [hds, Option.map_none, List.length_map]
              rw [if_pos ⟨hc.1, e.trans hc.2⟩]; simp [SV.si, SV.sil_map]
            · cases h
        · simp [h]
      · cases h
    | el y =>
      simp only [SV.si, D.si_leaf hl, D.si_width hl] at h ⊢
      split at h
      · rename_i hc; rw [if_pos hc]; simp only [Option.some.injEq] at h; subst h; simp [SV.si]
      · cases h
    | _ => cases h
theorem xst_si (hl : Lf σ) {o : TM AO} {y : SV} {r : TM AO} (h : xst Θ o t x y = some r) : xst Θ (o.mapT (AO.si σ)) t (x.si σ) (y.si σ) = some (r.mapT (AO.si σ)) := by
  have ho : (o.mapT (AO.si σ)).get = osi σ o.get := by funext k; simp [TM.get_mapT, osi]
  unfold xst at h ⊢
  rw [ho]
  split at h
  · cases h
  · rename_i i hi
    split at h
    · cases h
    · rename_i ys hys
      rw [cells_si hl hys]
      simp only [List.length_map]
      split at h
      · rename_i hz
        rw [if_pos hz]
        cases x with
        | loc k f =>
          simp only [SV.si] at h ⊢
          split at h
          · rename_i cs hcs
            simp only [osi, hcs, Option.map_some, AO.si, List.length_map]
            split at h
            · rename_i hc
              rw [if_pos hc]
              simp only [Option.some.injEq] at h; subst h
              simp [TM.mapT_set, AO.si]
            · cases h
          · cases h
        | _ => cases h
      · cases h
theorem xfd_si (hl : Lf σ) {f : Nat} {r : SV} (h : xfd Θ o t x f = some r) : xfd Θ (osi σ o) t (x.si σ) f = some (r.si σ) := by
  unfold xfd at h ⊢
  split at h
  · cases h
  · rename_i i hi
    split at h
    · rename_i fs hk
      try simp only [hi, hk]
      split at h
      · cases h
      · rename_i off ft hf
        try simp only [hf]
        split at h
        · cases h
        · rename_i j hj
          split at h
          · cases h
          · rename_i hz
            try simp only [hj]
            rw [if_neg hz]
            cases x with
            | loc k g =>
              simp only [SV.si] at h ⊢
              split at h
              · rename_i cs hcs
                simp only [osi, hcs, Option.map_some, AO.si]
                simp only [Option.some.injEq] at h; subst h; simp [SV.si]
              · cases h
            | el y =>
              simp only [SV.si] at h ⊢
              obtain ⟨u, h1, rfl⟩ := Option.map_eq_some_iff.1 h
              rw [sub_si hl h1]; simp [SV.si]
            | rel k q g =>
              simp only [SV.si] at h ⊢
              split at h
              · rename_i e z xs hcs
                simp only [osi, hcs, Option.map_some, AO.si]
                simp only [Option.some.injEq] at h; subst h; simp [SV.si]
              · cases h
            | _ => cases h
    · cases h
theorem xfv_si (hl : Lf σ) {f : Nat} {r : SV} (h : xfv Θ t x f = some r) : xfv Θ t (x.si σ) f = some (r.si σ) := by
  unfold xfv at h ⊢
  split at h
  · cases h
  · rename_i i hi
    split at h
    · rename_i fs hk
      try simp only [hi, hk]
      split at h
      · cases h
      · rename_i off ft hf
        try simp only [hf]
        split at h
        · cases h
        · rename_i j hj
          try simp only [hj]
          cases x with
          | d y =>
            simp only [SV.si] at h ⊢
            obtain ⟨u, h1, rfl⟩ := Option.map_eq_some_iff.1 h
            rw [sub_si hl h1]; simp [SV.si]
          | _ => cases h
    · cases h
end
end Go.Proofs.Ytpkcbdhjnnnkbaa.Abs
