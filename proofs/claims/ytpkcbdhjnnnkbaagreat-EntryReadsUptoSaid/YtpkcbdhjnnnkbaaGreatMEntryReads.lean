/- EntryReads: called with any bytes and any number that hold together at most 1048576 values and letters, the law answers true, and the bytes read afterwards as they read before. -/
import Derived.Test.YtpkcbdhjnnnkbaaGreatMEntryReads5
import Derived.Test.YtpkcbdhjnnnkbaaGreatMEntryReads4
import Derived.Test.YtpkcbdhjnnnkbaaGreatMEntryReads3
import Derived.Test.YtpkcbdhjnnnkbaaGreatMEntryReads2
import Derived.Test.YtpkcbdhjnnnkbaaGreatRows
import Derived.WalkKit
import Derived.ProofKit
import Derived.OpenShut
import Derived.JoinedCond
import Derived.ChangeArms
import Derived.Carry
set_option linter.unusedVariables false
set_option linter.unusedSimpArgs false
set_option maxRecDepth 10000
namespace Go.Proofs.YtpkcbdhjnnnkbaaGreat.Abs
open Go
theorem pvv {P:Program} {f:FuncId} {v w:Val} {r:SV} (h:PSpec P f [.d (encV v),.d (encV w)] r):PSpec P f [.d (.agg (valCells v)),.d (.agg (valCells w))] r:=by rw [← encV_eq,← encV_eq];exact h
theorem dlt_same {x y:Dlt}:(x.kind != y.kind || x.n != y.n || !decide (x.path=y.path) || !sameV x.value y.value)=true↔¬ x=y:=by
 cases x;cases y;simp only [Dlt.mk.injEq,Bool.or_eq_true,bne_iff_ne,Bool.not_eq_true',decide_eq_false_iff_not,← Bool.not_eq_true,same_eq,ne_eq]
 grind
open Classical in
noncomputable def sameDs (a b:List Dlt):Bool:=decide (a=b)
open Classical in
noncomputable def sameE (a b:Etr):Bool:=decide (a=b)
theorem sameDs_ne {a b:List Dlt} (h:¬ a=b):sameDs a b=false:=by simp [sameDs,h]
theorem sameE_refl (a:Etr):sameE a a=true:=by simp [sameE]
theorem sameE_iff {a b:Etr}:sameE a b=true↔a.term=b.term∧a.kind=b.kind∧a.coll=b.coll∧a.to=b.to∧a.id=b.id∧a.doc=b.doc∧a.deltas=b.deltas∧a.session=b.session∧a.number=b.number:=by
 cases a;cases b;simp [sameE]
theorem sameDs_iff {a b:List Dlt}:sameDs a b=true↔a=b:=by simp [sameDs]
@[simp] theorem vc_len (v:Val):(valCells v).length=5:=by cases v;rfl
theorem fn37:FnOk Tryz.prog 37 69 [4] (bodyOf Tryz.f37):=⟨Tryz.f37,Tryz.func37,by kernel_rfl,by decide,by kernel_rfl,by kernel_rfl⟩
theorem s37 (a b:List Dlt):PSpec Tryz.prog 37 [.d (.sl 8 (a.map encD)),.d (.sl 8 (b.map encD))] (.d (.bool (sameDs a b))):=by
 refine PSpec.bd fun hbd=>?_;have hx:a.length≤9223372036854775807:=by simpa using hbd.1.1
 refine PSpec.of fn37 (by simp) fun o nk=>?_;refine wr ?_;refine ua ?_;refine u_nil ?_;refine WP.seq fun K2 hK2=>?_;refine wr ?_;refine um ?_;refine un th28 ?_;refine um ?_;refine un th28 ?_;refine ub ?_;refine u_nil ?_;refine wc (fun hc4=>?_) (fun hc4=>?_) <;> try simp only [Q0,Q1,Q2,Q3,Q4,Q5,Q6,Q7,Q8,ge_iff_le,gt_iff_lt] at hc4
 ·
  refine wr ?_;refine ua ?_;refine u_nil ?_;refine WP.ret ?_;refine ret_ok rfl ?_ (by omega) (fun _ _=>rfl);refine congrArg D.bool (sameDs_ne ?_).symm;rintro rfl;have hl:=hc4;simp at hl
 ·
  have hab:a.length=b.length:=by have:=hc4;(try simp at this);omega
  refine WP.skip ?_;refine hK2 _ ?_;refine WP.seq fun K6 hK6=>?_;refine wr ?_;refine ua ?_;refine u_nil ?_;refine WP.block ?_;refine WP.loopL (ι:=Nat) (fun i=>⟨al [(0,.d (.sl 8 (a.map encD))),(1,.d (.sl 8 (b.map encD))),(5,.d (.int .i64 i))],o,nk⟩) (fun i=>i≤a.length∧∀ (j:Nat) (hj:j < a.length) (hk:j < b.length),j < i→a[j]=b[j]) (fun i=>a.length - i) (fun i hA=>?_) 0 ?_ ?_
  ·
   obtain ⟨hle_i,hin_i⟩:=hA;refine WP.seq fun K8 hK8=>?_;refine wr ?_;refine um ?_;refine um ?_;refine un th28 ?_;refine ub ?_;refine u_nil ?_;refine wc (fun hc10=>?_) (fun hc10=>?_) <;> try simp only [Q0,Q1,Q2,Q3,Q4,Q5,Q6,Q7,Q8,ge_iff_le,gt_iff_lt] at hc10
   ·
    have hil:i < a.length:=by have:=hc10;(try simp at this);omega
    have hil2:i < b.length:=by omega
    refine WP.skip ?_;refine hK8 _ ?_;refine WP.seq fun K11 hK11=>?_;refine WP.block ?_;refine wd ?_;refine dm ?_;refine dm ?_
    first | refine d_step (o_ia_map rfl rfl th28 rfl th83 rfl (by omega) ⟨rfl,rfl,rfl⟩) ?_ | refine d_step (o_ia_vs rfl rfl th28 rfl th83 rfl (by omega) ⟨rfl,rfl,rfl⟩) ?_
    refine dF th83 th3 ?_;refine dL th3 ?_;refine dm ?_;refine dm ?_
    first | refine d_step (o_ia_map rfl rfl th28 rfl th83 rfl (by omega) ⟨rfl,rfl,rfl⟩) ?_ | refine d_step (o_ia_vs rfl rfl th28 rfl th83 rfl (by omega) ⟨rfl,rfl,rfl⟩) ?_
    refine dF th83 th3 ?_;refine dL th3 ?_;refine db ?_;refine dm ?_;apply d_guard
    ·exact GC.f _
    ·intro hg;exact pm
    apply d_guard
    ·exact GC.f _
    ·intro hg;exact pm
    apply d_guard
    ·exact GC.f _
    ·intro hg;try simp only [hg,ct];try simp only [hg,ct,Bt]
     have hg2:=hg;try simp only [Q0,Q1,Q2,Q3,Q4,Q5,Q6,Q9,Qa,Qb,Qc,Qd] at hg2
     first | refine o_ia_map rfl rfl th28 rfl th83 rfl (by omega) ⟨rfl,rfl,rfl⟩ | refine o_ia_vs rfl rfl th28 rfl th83 rfl (by omega) ⟨rfl,rfl,rfl⟩
    apply d_guard
    ·exact GC.f _
    ·intro hg;try simp only [hg,ct];try simp only [hg,ct,Bt]
     exact pF th83 th3
    apply d_guard
    ·exact GC.f _
    ·intro hg;try simp only [hg,ct];try simp only [hg,ct,Bt]
     exact pL th3
    apply d_guard
    ·exact GC.f _
    ·intro hg;exact pm
    apply d_guard
    ·exact GC.f _
    ·intro hg;exact pm
    apply d_guard
    ·exact GC.f _
    ·intro hg;try simp only [hg,ct];try simp only [hg,ct,Bt]
     have hg2:=hg;try simp only [Q0,Q1,Q2,Q3,Q4,Q5,Q6,Q9,Qa,Qb,Qc,Qd] at hg2
     first | refine o_ia_map rfl rfl th28 rfl th83 rfl (by omega) ⟨rfl,rfl,rfl⟩ | refine o_ia_vs rfl rfl th28 rfl th83 rfl (by omega) ⟨rfl,rfl,rfl⟩
    apply d_guard
    ·exact GC.f _
    ·intro hg;try simp only [hg,ct];try simp only [hg,ct,Bt]
     exact pF th83 th3
    apply d_guard
    ·exact GC.f _
    ·intro hg;try simp only [hg,ct];try simp only [hg,ct,Bt]
     exact pL th3
    apply d_guard
    ·exact GC.f _
    ·intro hg;try simp only [hg,ct];try simp only [hg,ct,Bt]
     exact pb
    refine dO ?_;refine dm ?_;apply d_guard
    ·exact GC.f _
    ·intro hg;exact pm
    apply d_guard
    ·exact GC.f _
    ·intro hg;exact pm
    apply d_guard
    ·exact GC.f _
    ·intro hg;try simp only [hg,ct];try simp only [hg,ct,Bt]
     have hg2:=hg;try simp only [Q0,Q1,Q2,Q3,Q4,Q5,Q6,Q9,Qa,Qb,Qc,Qd] at hg2
     first | refine o_ia_map rfl rfl th28 rfl th83 rfl (by omega) ⟨rfl,rfl,rfl⟩ | refine o_ia_vs rfl rfl th28 rfl th83 rfl (by omega) ⟨rfl,rfl,rfl⟩
    apply d_guard
    ·exact GC.f _
    ·intro hg;try simp only [hg,ct];try simp only [hg,ct,Bt]
     exact pF th83 th22
    apply d_guard
    ·exact GC.f _
    ·intro hg;try simp only [hg,ct];try simp only [hg,ct,Bt]
     exact pL th22
    apply d_guard
    ·exact GC.f _
    ·intro hg;exact pm
    apply d_guard
    ·exact GC.f _
    ·intro hg;exact pm
    apply d_guard
    ·exact GC.f _
    ·intro hg;try simp only [hg,ct];try simp only [hg,ct,Bt]
     have hg2:=hg;try simp only [Q0,Q1,Q2,Q3,Q4,Q5,Q6,Q9,Qa,Qb,Qc,Qd] at hg2
     first | refine o_ia_map rfl rfl th28 rfl th83 rfl (by omega) ⟨rfl,rfl,rfl⟩ | refine o_ia_vs rfl rfl th28 rfl th83 rfl (by omega) ⟨rfl,rfl,rfl⟩
    apply d_guard
    ·exact GC.f _
    ·intro hg;try simp only [hg,ct];try simp only [hg,ct,Bt]
     exact pF th83 th22
    apply d_guard
    ·exact GC.f _
    ·intro hg;try simp only [hg,ct];try simp only [hg,ct,Bt]
     exact pL th22
    apply d_guard
    ·exact GC.f _
    ·intro hg;try simp only [hg,ct];try simp only [hg,ct,Bt]
     refine o_pcall (s91 (a[i].path) (b[i].path)) rfl ⟨rfl,rfl,rfl⟩
    apply d_guard
    ·exact GC.f _
    ·intro hg;try simp only [hg,ct];try simp only [hg,ct,Bt]
     exact pN
    refine dO ?_;refine dm ?_;apply d_guard
    ·exact GC.f _
    ·intro hg;exact pm
    apply d_guard
    ·exact GC.f _
    ·intro hg;exact pm
    apply d_guard
    ·exact GC.f _
    ·intro hg;try simp only [hg,ct];try simp only [hg,ct,Bt]
     have hg2:=hg;try simp only [Q0,Q1,Q2,Q3,Q4,Q5,Q6,Q9,Qa,Qb,Qc,Qd] at hg2
     first | refine o_ia_map rfl rfl th28 rfl th83 rfl (by omega) ⟨rfl,rfl,rfl⟩ | refine o_ia_vs rfl rfl th28 rfl th83 rfl (by omega) ⟨rfl,rfl,rfl⟩
    apply d_guard
    ·exact GC.f _
    ·intro hg;try simp only [hg,ct];try simp only [hg,ct,Bt]
     exact pF th83 th27
    apply d_guard
    ·exact GC.f _
    ·intro hg;try simp only [hg,ct];try simp only [hg,ct,Bt]
     exact pL th27
    apply d_guard
    ·exact GC.f _
    ·intro hg;exact pm
    apply d_guard
    ·exact GC.f _
    ·intro hg;exact pm
    apply d_guard
    ·exact GC.f _
    ·intro hg;try simp only [hg,ct];try simp only [hg,ct,Bt]
     have hg2:=hg;try simp only [Q0,Q1,Q2,Q3,Q4,Q5,Q6,Q9,Qa,Qb,Qc,Qd] at hg2
     first | refine o_ia_map rfl rfl th28 rfl th83 rfl (by omega) ⟨rfl,rfl,rfl⟩ | refine o_ia_vs rfl rfl th28 rfl th83 rfl (by omega) ⟨rfl,rfl,rfl⟩
    apply d_guard
    ·exact GC.f _
    ·intro hg;try simp only [hg,ct];try simp only [hg,ct,Bt]
     exact pF th83 th27
    apply d_guard
    ·exact GC.f _
    ·intro hg;try simp only [hg,ct];try simp only [hg,ct,Bt]
     exact pL th27
    apply d_guard
    ·exact GC.f _
    ·intro hg;try simp only [hg,ct];try simp only [hg,ct,Bt]
     refine o_pcall (pvv (s30 a[i].value b[i].value)) rfl ⟨rfl,rfl,rfl⟩
    apply d_guard
    ·exact GC.f _
    ·intro hg;try simp only [hg,ct];try simp only [hg,ct,Bt]
     exact pN
    refine dO ?_;refine d_nil ?_;refine wc (fun hc13=>?_) (fun hc13=>?_) <;> try simp only [Q0,Q1,Q2,Q3,Q4,Q5,Q6,Q7,Q8,ge_iff_le,gt_iff_lt] at hc13
    ·
     refine wr ?_;refine ua ?_;refine u_nil ?_;refine WP.ret ?_;refine ret_ok rfl ?_ (by omega) (fun _ _=>rfl);refine congrArg D.bool (sameDs_ne ?_).symm;rintro rfl;have hl:=hc13;exact absurd rfl (dlt_same.1 hl)
    ·
     refine WP.skip ?_;refine hK11 _ ?_;refine WP.reg tabOk rfl ?_;refine um ?_;refine ub ?_;refine ua ?_;refine u_nil ?_;refine ⟨i+1,⟨by omega,?_⟩,by omega,?_⟩
     ·intro j hj hk h1;by_cases h2:j=i
      ·subst h2;have hl:=hc13;exact Classical.byContradiction fun hne=>by rw [dlt_same.2 hne] at hl;cases hl
      ·exact hin_i j hj hk (by omega)
     ·refine Le.al ?_;simp only [List.forall_mem_cons];exact ⟨rfl,rfl,cnt (by omega),by simp⟩
   ·
    refine WP.exit ?_;refine hK6 _ ?_;refine wr ?_;refine ua ?_;refine u_nil ?_;refine WP.ret ?_;refine ret_ok rfl ?_ (by omega) (fun _ _=>rfl);refine congrArg D.bool ?_;exact (sameDs_iff.2 (List.ext_getElem hab fun j h1 h2=>hin_i j h1 h2 (by omega))).symm
  ·
   simp
  ·
   refine Le.al ?_;simp only [List.forall_mem_cons];exact ⟨rfl,rfl,rfl,by simp⟩
theorem fn46:FnOk Tryz.prog 46 66 [4] (bodyOf Tryz.f46):=⟨Tryz.f46,Tryz.func46,by kernel_rfl,by decide,by kernel_rfl,by kernel_rfl⟩
theorem s46 (a b:Etr):PSpec Tryz.prog 46 [.d (encE a),.d (encE b)] (.d (.bool (sameE a b))):=by
 refine PSpec.of fn46 (by simp) fun o nk=>?_;refine wr ?_;refine u_step (g_box rfl fun o2 hb2 hk2=>?_);refine u_step (g_box rfl fun o3 hb3 hk3=>?_);have hb2_3:=(hk3 _ (by omega)).trans hb2;refine ua ?_;refine u_nil ?_;refine wr ?_;refine uf th30 th3 hb2_3 ?_;refine ul th3 hb2_3 ?_;refine uf th30 th3 hb3 ?_;refine ul th3 hb3 ?_;refine ub ?_;refine um ?_;apply gT
 ·rfl
 ·intro hg;exact pf th30 th3 hb2_3
 apply gT
 ·rfl
 ·intro hg;try simp only [hg,ct];try simp only [hg,ct,Bt]
  exact pl th3 hb2_3
 apply gT
 ·rfl
 ·intro hg;exact pf th30 th3 hb3
 apply gT
 ·rfl
 ·intro hg;try simp only [hg,ct];try simp only [hg,ct,Bt]
  exact pl th3 hb3
 apply gT
 ·rfl
 ·intro hg;try simp only [hg,ct];try simp only [hg,ct,Bt]
  exact pb
 refine uA ?_;refine um ?_;apply gT
 ·rfl
 ·intro hg;exact pf th30 th9 hb2_3
 apply gT
 ·rfl
 ·intro hg;try simp only [hg,ct];try simp only [hg,ct,Bt]
  exact pl th9 hb2_3
 apply gT
 ·rfl
 ·intro hg;exact pf th30 th9 hb3
 apply gT
 ·rfl
 ·intro hg;try simp only [hg,ct];try simp only [hg,ct,Bt]
  exact pl th9 hb3
 apply gT
 ·rfl
 ·intro hg;try simp only [hg,ct];try simp only [hg,ct,Bt]
  exact ps
 refine uA ?_;refine um ?_;apply gT
 ·rfl
 ·intro hg;exact pf th30 th9 hb2_3
 apply gT
 ·rfl
 ·intro hg;try simp only [hg,ct];try simp only [hg,ct,Bt]
  exact pl th9 hb2_3
 apply gT
 ·rfl
 ·intro hg;exact pf th30 th9 hb3
 apply gT
 ·rfl
 ·intro hg;try simp only [hg,ct];try simp only [hg,ct,Bt]
  exact pl th9 hb3
 apply gT
 ·rfl
 ·intro hg;try simp only [hg,ct];try simp only [hg,ct,Bt]
  exact ps
 refine uA ?_;refine um ?_;apply gT
 ·rfl
 ·intro hg;exact pf th30 th27 hb2_3
 apply gT
 ·rfl
 ·intro hg;try simp only [hg,ct];try simp only [hg,ct,Bt]
  exact pg th27 hb2_3
 apply gT
 ·rfl
 ·intro hg;exact pf th30 th27 hb3
 apply gT
 ·rfl
 ·intro hg;try simp only [hg,ct];try simp only [hg,ct,Bt]
  exact pg th27 hb3
 apply gT
 ·rfl
 ·intro hg;try simp only [hg,ct];try simp only [hg,ct,Bt]
  refine o_pcall (pvv (s30 a.id b.id)) rfl ⟨rfl,rfl,rfl⟩
 refine uA ?_;refine um ?_;apply gT
 ·rfl
 ·intro hg;exact pf th30 th27 hb2_3
 apply gT
 ·rfl
 ·intro hg;try simp only [hg,ct];try simp only [hg,ct,Bt]
  exact pg th27 hb2_3
 apply gT
 ·rfl
 ·intro hg;exact pf th30 th27 hb3
 apply gT
 ·rfl
 ·intro hg;try simp only [hg,ct];try simp only [hg,ct,Bt]
  exact pg th27 hb3
 apply gT
 ·rfl
 ·intro hg;try simp only [hg,ct];try simp only [hg,ct,Bt]
  refine o_pcall (pvv (s30 a.doc b.doc)) rfl ⟨rfl,rfl,rfl⟩
 refine uA ?_;refine um ?_;apply gT
 ·rfl
 ·intro hg;exact pf th30 th28 hb2_3
 apply gT
 ·rfl
 ·intro hg;try simp only [hg,ct];try simp only [hg,ct,Bt]
  exact pl th28 hb2_3
 apply gT
 ·rfl
 ·intro hg;exact pf th30 th28 hb3
 apply gT
 ·rfl
 ·intro hg;try simp only [hg,ct];try simp only [hg,ct,Bt]
  exact pl th28 hb3
 apply gT
 ·rfl
 ·intro hg;try simp only [hg,ct];try simp only [hg,ct,Bt]
  refine o_pcall (s37 a.deltas b.deltas) rfl ⟨rfl,rfl,rfl⟩
 refine uA ?_;refine um ?_;apply gT
 ·rfl
 ·intro hg;exact pf th30 th3 hb2_3
 apply gT
 ·rfl
 ·intro hg;try simp only [hg,ct];try simp only [hg,ct,Bt]
  exact pl th3 hb2_3
 apply gT
 ·rfl
 ·intro hg;exact pf th30 th3 hb3
 apply gT
 ·rfl
 ·intro hg;try simp only [hg,ct];try simp only [hg,ct,Bt]
  exact pl th3 hb3
 apply gT
 ·rfl
 ·intro hg;try simp only [hg,ct];try simp only [hg,ct,Bt]
  exact pb
 refine uA ?_;refine um ?_;apply gT
 ·rfl
 ·intro hg;exact pf th30 th3 hb2_3
 apply gT
 ·rfl
 ·intro hg;try simp only [hg,ct];try simp only [hg,ct,Bt]
  exact pl th3 hb2_3
 apply gT
 ·rfl
 ·intro hg;exact pf th30 th3 hb3
 apply gT
 ·rfl
 ·intro hg;try simp only [hg,ct];try simp only [hg,ct,Bt]
  exact pl th3 hb3
 apply gT
 ·rfl
 ·intro hg;try simp only [hg,ct];try simp only [hg,ct,Bt]
  exact pb
 refine uA ?_;refine ua ?_;refine u_nil ?_;refine WP.ret ?_;refine ret_ok rfl ?_ (by omega) (fun t ht=>(hk3 t (by omega)).trans ((hk2 t (by omega))))
 skip
 refine congrArg D.bool ?_;rw [Bool.eq_iff_iff,sameE_iff];simp only [Bool.and_eq_true,beq_iff_eq,decide_eq_true_eq,sameDs_iff,same_eq]
 grind
end Go.Proofs.YtpkcbdhjnnnkbaaGreat.Abs

set_option linter.unusedVariables false
set_option linter.unusedSimpArgs false
namespace Go.Proofs.YtpkcbdhjnnnkbaaGreat.Abs
open Go
section
variable (Θ:Tab) (nofr:Nat→Bool) (call:Nat→List SV→TM AO→Nat→Option XR)
def preD (l:List Oper) (s:XS):List Nat:=l.flatMap fun op=>preF nofr op.op s
def postD (l:List Oper) (s:XS):List Nat:=l.flatMap fun op=>postF op.op s
def xDrawF (ops:Array Oper) (s:XS):Option XS:=
 match s.frzs (preD nofr ops.toList s) with
 | s1=>match xDraw Θ call ops s1 with
  | some s'=>some s'
  | none=>match xDraw Θ call ops ((s1.frzs (postD ops.toList s1)).soft) with
   | some s'=>some s'
   | none=>match xDrawP Θ call ops s1 with
    | some s'=>some s'
    | none=>xDrawP Θ call ops ((s1.frzs (postD ops.toList s1)).soft)
end
def xRes (Θ:Tab):List ResultVar→XS→Option (List SV×XS)
 | [],s=>some ([],s)
 | .tmp t :: r,s=>match xRes Θ r s with
  | none=>none
  | some (vs,s')=>match s'.sl.get t with
   | none=>some (.any :: vs,s')
   | some v=>some (v :: vs,s')
 | .cell a t :: r,s=>match xRes Θ r s with
  | none=>none
  | some (vs,s')=>match s'.sl.get a with
   | some (.loc k f)=>match xld Θ s'.o.get t (.loc k f) with
    | some v=>some (v :: vs,s')
    | none=>none
   | _=>none
def cellsR (s:XS):List ResultVar→List Nat
 | []=>[]
 | .tmp _ :: r=>cellsR s r
 | .cell a _ :: r=>(match s.sl.get a with
  | some c=>rowsO s.o c
  | none=>[])++cellsR s r
theorem xRes_ok {Θ:Tab}:∀ {rs:List ResultVar} {s s':XS} {vs:List SV},xRes Θ rs s=some (vs,s')→s'=s∧ResL Θ s.st rs vs
 | [],s,s',vs,h=>by
  simp only [xRes,Option.some.injEq,Prod.mk.injEq] at h;obtain ⟨rfl,rfl⟩:=h;exact ⟨rfl,trivial⟩
 | .tmp t :: r,s,s',vs,h=>by
  simp only [xRes] at h;split at h
  ·cases h
  ·rename_i vs1 s1 h1;obtain ⟨rfl,h2⟩:=xRes_ok h1;split at h
   ·rename_i hg;simp only [Option.some.injEq,Prod.mk.injEq] at h;obtain ⟨rfl,rfl⟩:=h;exact ⟨rfl,(by show SV.any=(s1.sl.get t).getD .any;rw [hg];rfl),h2⟩
   ·rename_i v hg;simp only [Option.some.injEq,Prod.mk.injEq] at h;obtain ⟨rfl,rfl⟩:=h;exact ⟨rfl,(by show v=(s1.sl.get t).getD .any;rw [hg];rfl),h2⟩
 | .cell a t :: r,s,s',vs,h=>by
  simp only [xRes] at h;split at h
  ·cases h
  ·rename_i vs1 s1 h1;obtain ⟨rfl,h2⟩:=xRes_ok h1;split at h
   ·rename_i k f hg;split at h
    ·rename_i v hv;simp only [Option.some.injEq,Prod.mk.injEq] at h;obtain ⟨rfl,rfl⟩:=h;have hsl:s1.st.sl a=.loc k f:=by show (s1.sl.get a).getD .any=_;rw [hg];rfl
     refine ⟨rfl,⟨⟨k,f,hsl⟩,?_⟩,h2⟩;rw [hsl];exact xld_ok Θ hv rfl
    ·cases h
   ·cases h
def itB:Obj→Obj→Bool
 | .stringIter a i,.stringIter b j=>decide (a.data.toList=b.data.toList) && decide (i=j)
 | _,_=>false
theorem itB_ok {x y:Obj} (h:itB x y=true):x=y:=by
 unfold itB at h;split at h
 ·rename_i a i b j;simp only [Bool.and_eq_true,decide_eq_true_eq] at h;obtain ⟨h1,rfl⟩:=h;obtain ⟨⟨a⟩⟩:=a;obtain ⟨⟨b⟩⟩:=b;simp at h1;rw [h1]
 ·cases h
def kvB:List (D×D)→List (D×D)→Bool
 | [],[]=>true
 | (a,b) :: r,(c,d) :: q=>D.eqb a c && (D.eqb b d && kvB r q)
 | _,_=>false
theorem kvB_ok:∀ {x y:List (D×D)},kvB x y=true→x=y
 | [],[],_=>rfl
 | [],_ :: _,h=>by simp [kvB] at h
 | _ :: _,[],h=>by simp [kvB] at h
 | (a,b) :: r,(c,d) :: q,h=>by
  simp only [kvB,Bool.and_eq_true] at h;rw [D.eqb_ok _ _ h.1,D.eqb_ok _ _ h.2.1,kvB_ok h.2.2]
def AO.eqb:AO→AO→Bool
 | .box a,.box b=>SV.eqbs a b
 | .row e z xs,.row e2 z2 ys=>decide (e=e2) && (decide (z=z2) && D.eqbs xs ys)
 | .raw (.ob a),.raw (.ob b)=>itB a b
 | .raw (.map a),.raw (.map b)=>kvB a b
 | _,_=>false
theorem AO.eqb_ok {x y:AO} (h:AO.eqb x y=true):x=y:=by
 unfold AO.eqb at h;split at h
 ·rw [SV.eqbs_ok h]
 ·simp only [Bool.and_eq_true,decide_eq_true_eq] at h;obtain ⟨rfl,rfl,h⟩:=h;rw [D.eqbs_ok _ _ h]
 ·rw [itB_ok h]
 ·rw [kvB_ok h]
 ·cases h
def tmB:TM AO→TM AO→Bool
 | .e,.e=>true
 | .n none l r,.n none l2 r2=>tmB l l2 && tmB r r2
 | .n (some v) l r,.n (some v2) l2 r2=>AO.eqb v v2 && (tmB l l2 && tmB r r2)
 | _,_=>false
theorem tmB_ok:∀ {x y:TM AO},tmB x y=true→x=y
 | .e,.e,_=>rfl
 | .e,.n _ _ _,h=>by simp [tmB] at h
 | .n none l r,.n none l2 r2,h=>by
  simp only [tmB,Bool.and_eq_true] at h;rw [tmB_ok h.1,tmB_ok h.2]
 | .n (some v) l r,.n (some v2) l2 r2,h=>by
  simp only [tmB,Bool.and_eq_true] at h;rw [AO.eqb_ok h.1,tmB_ok h.2.1,tmB_ok h.2.2]
 | .n none _ _,.n (some _) _ _,h=>by simp [tmB] at h
 | .n (some _) _ _,.n none _ _,h=>by simp [tmB] at h
 | .n (some _) _ _,.e,h=>by simp [tmB] at h
 | .n none _ _,.e,h=>by simp [tmB] at h
structure ME where
 f:Nat
 a:List SV
 o:TM AO
 k:Nat
 r:SV
 o2:TM AO
 k2:Nat
structure Env where
 Θ:Tab
 tb:Nat→Option Func
 nat:Nat→List SV→Option D
 nofr:Nat→Bool
 pure:Nat→Bool
 memo:Nat→List SV→TM AO→Nat→Option XR
structure EnvOk (P:Program) (X:Env):Prop where
 hΘ:TabOk P X.Θ
 tb : ∀ f fn, X.tb f = some fn → P.funcs[f]? = some fn ∧ (fn.name == "runtime.NumGoroutine") = false
 nat:∀ f asx d,X.nat f asx=some d→PSpec P f asx (.d d)
 mix:P.follows .mixedOrders=true
 memo:CallOk P X.memo
def dataL:List SV→Bool
 | []=>true
 | .d _ :: r=>dataL r
 | _=>false
def dataR:SV→Bool
 | .d _=>true
 | .tup xs=>dataL xs
 | _=>false
def rowsR:List SV→List Nat
 | []=>[]
 | .ag cs :: r=>rowsL cs++rowsR r
 | c :: r=>rowsV c++rowsR r
def SV.dd:SV→SV
 | .dx z xs=>.d (.sl z xs)
 | .ag cs=>match allD cs with
  | some ds=>if ds.all D.leaf=true then .d (.agg ds) else .ag cs
  | none=>.ag cs
 | c=>c
theorem SR.dd {w:World} {S:Nat→Prop} {γ:Nat→Value} {o:Nat→Option AO} {c:SV} {v:Value} (hc:SR w S γ o c v):SR w S γ o c.dd v:=by
 cases c with
 | dx z xs=>cases hc with
  | dx _ _ _ hr _=>exact .d _ _ hr
 | ag cs=>
  simp only [SV.dd];split
  ·rename_i ds hds;split
   ·rename_i hl;cases hc with
    | ag _ vs hv hr h1=>
     have he:=allD_spec hds;subst he;refine .d _ _ (.agg ds vs hl (by simpa using hv) fun i x u hx hu=>?_);have:=hr i (.d x) u (by rw [List.getElem?_map,hx];rfl) hu;cases this with
     | d _ _ hq=>exact hq
   ·exact hc
  ·exact hc
 | _=>exact hc
theorem SV.dd_lt {c:SV} {n:Nat} (hc:c.lt n):c.dd.lt n:=by
 cases c with
 | ag cs=>
  simp only [SV.dd];split
  ·split
   ·trivial
   ·exact hc
  ·exact hc
 | _=>first | exact hc | trivial
def XS.dd (s:XS):XS:=⟨s.sl.mapT SV.dd,s.o,s.nk⟩
theorem XS.dd_ok {E:Ent} {s:XS} {a:Act} {w:World} (h:Rel E s.st a w):Rel E s.dd.st a w:=by
 obtain ⟨S,γ,h⟩:=h;have e:∀ u,(s.dd.st.sl u)=(s.st.sl u).dd:=fun u=>by
  simp only [XS.dd,XS.st,TM.get_mapT];cases s.sl.get u <;> rfl
 exact ⟨S,γ,h.sto,h.tr,fun u=>by rw [e];exact (h.sl u).dd,fun u=>by rw [e];exact SV.dd_lt (h.slt u),h.df,h.nn⟩
def XS.tame (Θ:Tab) (rs:List ResultVar) (s:XS):XS:=
 match xRes Θ rs s with
 | some (vs,_)=>(s.frzs (rowsR vs)).dd
 | none=>s
theorem XS.tame_ok {Θ:Tab} {rs:List ResultVar} {E:Ent} {s:XS} {a:Act} {w:World} (h:Rel E s.st a w):Rel E (s.tame Θ rs).st a w:=by
 unfold XS.tame;split
 ·exact XS.dd_ok (XS.frzs_ok _ h)
 ·exact h
mutual
def xCall (X:Env):Nat→Nat→List SV→TM AO→Nat→Option XR
  | 0,_,_,_,_=>none
  | m+1,f,asx,o,nk=>match X.memo f asx o nk with
    | some r=>some r
    | none=>match X.nat f asx with
      | some d=>some (.d d,o,nk)
      | none=>bif X.pure f && dataL asx then (match xBody X m true f asx .e 0 with
          | some (r,_,_)=>bif dataR r then some (r,o,nk) else none
          | none=>none)
        else xBody X m false f asx o nk
def xBody (X:Env):Nat→Bool→Nat→List SV→TM AO→Nat→Option XR
  | 0,_,_,_,_,_=>none
  | m+1,fz,f,asx,o,nk=>match X.tb f with
      | none=>none
      | some fn=>match fn.body with
        | none=>none
        | some c=>bif Nat.ble asx.length fn.ntmps then match xC X m fn.ntmps c ⟨TM.ofList asx,o,nk⟩ with
            | none=>none
            | some (e,s)=>match (match e with
                | .normal=>true
                | .ret=>true
                | _=>false) with
              | false=>none
              | true=>match xRes X.Θ fn.results.toList (match fz with
                    | true=>s.tame X.Θ fn.results.toList
                    | false=>s) with
                | some (vs,s')=>some (tupOf vs,s'.o,s'.nk)
                | none=>match s.frzs (cellsR s fn.results.toList) with
                  | s1=>match xRes X.Θ fn.results.toList s1 with
                    | some (vs,s')=>some (tupOf vs,s'.o,s'.nk)
                    | none=>none
          else none
def xC (X:Env):Nat→Nat→Code→XS→Option (Exit×XS)
  | 0,_,_,_=>none
  | m+1,n,c,s=>match c with
    | .skip=>some (.normal,s)
    | .ret=>some (.ret,s)
    | .exit id=>some (.exit id,s)
    | .seq x y=>match xC X m n x s with
      | none=>none
      | some (e,s')=>match e with
        | .normal=>xC X m n y s'
        | e=>some (e,s')
    | .block id c=>match xC X m n c s with
      | none=>none
      | some (e,s')=>match e with
        | .exit id'=>bif Nat.beq id' id then some (.normal,s') else some (.exit id',s')
        | e=>some (e,s')
    | .cond x c d=>match xev s x with
      | .d (.bool true)=>xC X m n c s
      | .d (.bool false)=>xC X m n d s
      | _=>none
    | .loop c=>match xC X m n c s with
      | none=>none
      | some (e,s')=>match e with
        | .normal=>xC X m n (.loop c) s'
        | e=>some (e,s')
    | .scope c=>match xC X m n c s with
      | none=>none
      | some (e,s')=>match e with
        | .goto _=>none
        | e=>some (e,s')
    | .region _ ops drawn=>bif ops.toList.all fun o=>dstOk n o.dst then match drawn with
        | false=>match xOps X.Θ X.nofr (xCall X m) ops ops.toList s with
          | some s'=>some (.normal,s')
          | none=>none
        | true=>match xDrawF X.Θ X.nofr (xCall X m) ops s with
          | some s'=>some (.normal,s')
          | none=>none
      else none
    | _=>none
end
def Ran (P:Program) (n:Nat) (c:Code) (s:XS) (e:Exit) (s':XS):Prop:=∀ E a w,E.n=n→Rel E s.st a w→c.wp P (fun e2 a2 w2=>e2=e∧Rel E s'.st a2 w2) a w
theorem xDrawF_ok {P:Program} {Θ:Tab} {nofr:Nat→Bool} {call:Nat→List SV→TM AO→Nat→Option XR} {n:Nat} (hΘ:TabOk P Θ) (hm:P.follows .mixedOrders=true) (hc:CallOk P call) {id:Nat} {ops:Array Oper} {s s':XS} (hd:(ops.toList.all fun o=>dstOk n o.dst)=true)
    (h:xDrawF Θ nofr call ops s=some s'):Ran P n (.region id ops true) s .normal s':=by
  have key:∀ {s1:XS},xDraw Θ call ops s1=some s'→∀ E a w,E.n=n→Rel E s1.st a w→(Code.region id ops true).wp P (fun e2 a2 w2=>e2=.normal∧Rel E s'.st a2 w2) a w:=by
    intro s1 h1 E a w he hr;have:=xDraw_ok (Θ:=Θ) (call:=call) (P:=P) (n:=n) (k0:=E.nk) (Q:=fun e s2=>e=.normal∧s2=s'.st) (id:=id) hΘ hm hc hd h1 ⟨rfl,rfl⟩ E a w he rfl hr;exact Go.wp_mono this (by rintro e a' w' ⟨s2,h2,rfl,rfl⟩;exact ⟨rfl,h2⟩)
  have keyP:∀ {s1:XS},xDrawP Θ call ops s1=some s'→∀ E a w,E.n=n→Rel E s1.st a w→(Code.region id ops true).wp P (fun e2 a2 w2=>e2=.normal∧Rel E s'.st a2 w2) a w:=by
    intro s1 h1 E a w he hr;have:=xDrawP_ok (Θ:=Θ) (call:=call) (P:=P) (n:=n) (k0:=E.nk) (Q:=fun e s2=>e=.normal∧s2=s'.st) (id:=id) hΘ hm hc hd h1 ⟨rfl,rfl⟩ E a w he rfl hr;exact Go.wp_mono this (by rintro e a' w' ⟨s2,h2,rfl,rfl⟩;exact ⟨rfl,h2⟩)
  intro E a w he hr;unfold xDrawF at h;simp only at h;have hr1:=XS.frzs_ok (preD nofr ops.toList s) hr;split at h
  · rename_i s2 h2;simp only [Option.some.injEq] at h;subst h;exact key h2 E a w he hr1
  · split at h
    · rename_i s2 h2;simp only [Option.some.injEq] at h;subst h;exact key h2 E a w he (XS.soft_ok (XS.frzs_ok _ hr1))
    · split at h
      · rename_i s2 h2;simp only [Option.some.injEq] at h;subst h;exact keyP h2 E a w he hr1
      · exact keyP h E a w he (XS.soft_ok (XS.frzs_ok _ hr1))
theorem cond_bool {E:Ent} {s:XS} {a:Act} {w:World} {x:Operand} {b:Bool} (hr:Rel E s.st a w) (h:xev s x=.d (.bool b)):a.eval x=.bool b:=by
 obtain ⟨S,γ,hr⟩:=hr;have h1:=hr.fr.ev x;rw [← xev_eq,h] at h1;generalize a.eval x=u at h1;cases h1 with
 | d _ _ h2=>cases h2;rfl
theorem xC_loop {P:Program} {X:Env}:∀ (m:Nat),(∀ k,k < m→∀ n c s e s',xC X k n c s=some (e,s')→Ran P n c s e s')→∀ n c s e s',xC X m n (.loop c) s=some (e,s')→∀ E,E.n=n→
    ∃ k,∀ a w,Rel E s.st a w→Code.rounds P c (fun e2 a2 w2=>e2=e∧Rel E s'.st a2 w2) k a w
  | 0,_,n,c,s,e,s',h,_,_=>by simp [xC] at h
  | m+1,ih,n,c,s,e,s',h,E,he=>by
    simp only [xC] at h;cases hb:xC X m n c s with
    | none=>rw [hb] at h;cases h
    | some p=>
      obtain ⟨e1,s1⟩:=p;rw [hb] at h;have h1:=ih m (by omega) _ _ _ _ _ hb E;cases e1 with
      | normal=>
        simp only at h;obtain ⟨k,hk⟩:=xC_loop m (fun k hk=>ih k (by omega)) n c s1 e s' h E he;refine ⟨k+1,fun a w hr=>Go.wp_mono (h1 a w he hr) ?_⟩;rintro e2 a2 w2 ⟨rfl,h2⟩;exact hk a2 w2 h2
      | _=>
        simp only [Option.some.injEq,Prod.mk.injEq] at h;obtain ⟨rfl,rfl⟩:=h;refine ⟨1,fun a w hr=>Go.wp_mono (h1 a w he hr) ?_⟩;rintro e2 a2 w2 ⟨rfl,h2⟩;exact ⟨rfl,h2⟩
theorem of_list_st (asx:List SV) (o:TM AO) (nk:Nat):(XS.mk (TM.ofList asx) o nk).st={ sl:=slots asx,o:=o.get,nk:=nk }:=by
 simp only [XS.st,St.mk.injEq,and_true];funext u;rw [TM.get_ofList];simp [slots]
theorem ret_res {P:Program} {Θ:Tab} {E:Ent} {s s2:XS} {rs:List ResultVar} {vs:List SV} {e:Exit} {a:Act} {w:World} (he:e=.normal∨e=.ret) (h:xRes Θ rs s=some (vs,s2)) (hr:Rel E s.st a w) :
    ∃ s3,Rel E s3 a w∧retC Θ rs (fun r2 o2 n2=>r2=tupOf vs∧o2=s2.o.get∧n2=s2.nk) e s3:=by
  obtain ⟨rfl,h2⟩:=xRes_ok h;refine ⟨_,hr,?_⟩;rcases he with rfl | rfl <;> exact ⟨vs,h2,rfl,rfl,rfl⟩
theorem dataL_d:∀ {asx:List SV},dataL asx=true→∀ (i:Nat) (c:SV),asx[i]?=some c→∃ x,c=.d x
 | [],_,i,c,h=>by simp at h
 | .d x :: r,_,0,c,h=>by simp at h;exact ⟨x,h.symm⟩
 | .d x :: r,hd,i+1,c,h=>dataL_d (asx:=r) (by simpa [dataL] using hd) i c (by simpa using h)
 | .loc _ _ :: r,hd,i,c,h=>by simp [dataL] at hd
 | .row _ :: r,hd,i,c,h=>by simp [dataL] at hd
 | .el _ :: r,hd,i,c,h=>by simp [dataL] at hd
 | .rel _ _ _ :: r,hd,i,c,h=>by simp [dataL] at hd
 | .clo _ _ _ :: r,hd,i,c,h=>by simp [dataL] at hd
 | .tup _ :: r,hd,i,c,h=>by simp [dataL] at hd
 | .raw _ :: r,hd,i,c,h=>by simp [dataL] at hd
 | .any :: r,hd,i,c,h=>by simp [dataL] at hd
 | .view _ _ _ _ :: r,hd,i,c,h=>by simp [dataL] at hd
 | .dx _ _ :: r,hd,i,c,h=>by simp [dataL] at hd
 | .ag _ :: r,hd,i,c,h=>by simp [dataL] at hd
theorem sr_data {w w':World} {S S':Nat→Prop} {γ γ':Nat→Value} {o o':Nat→Option AO} {r:SV} {v:Value} (h:SR w S γ o r v) (hd:dataR r=true) (hS:∀ k,S k→S' k):SR w S' γ' o' r v∧∀ m,r.lt m:=by
 cases h with
 | d x _ hr=>exact ⟨.d _ _ (hr.mono hS fun _ _=>rfl),fun _=>trivial⟩
 | tup xs vs hv hr=>
  have hd:dataL xs=true:=hd;refine ⟨.tup xs vs hv fun i c u hc hu=>?_,fun m=>lts_of fun i c hc=>?_⟩
  ·obtain ⟨x,rfl⟩:=dataL_d hd i c hc;cases hr i _ u hc hu with
   | d _ _ hr=>exact .d _ _ (hr.mono hS fun _ _=>rfl)
  ·obtain ⟨x,rfl⟩:=dataL_d hd i c hc;trivial
 | _=>simp [dataR] at hd
theorem Spec.closeR {P:Program} {f:FuncId} {asx:List SV} {x:SV} (ha:dataL asx=true) (hx:dataR x=true) (h:Spec P f asx (fun _=>none) 0 fun r _ _=>r=x):PSpec P f asx x:=by
 intro o nk w S γ vs h1 h2 h3 h4;have hd:∀ (i:Nat) (c:SV) (v:Value),asx[i]?=some c→vs[i]?=some v→SR w S γ (fun _=>none) c v:=fun i c v hc hv=>by
  have hr:=h3 i c v hc hv;obtain ⟨y,rfl⟩:=dataL_d ha i c hc;cases hr with
  | d _ _ hr=>exact .d _ _ hr
 have hl:SV.lts 0 asx:=lts_of fun i c hc=>by
  obtain ⟨d,rfl⟩:=dataL_d ha i c hc;trivial
 have hs:Sto w S γ (fun _=>none) 0:=⟨h1.s_lt,fun _ _ h=>(by cases h),fun _ _ h=>(by cases h),fun _ _ _ _ h=>(by cases h),fun _ _ h=>(by cases h),fun _ _ _ h=>(by cases h),fun _ _ _ _ _ _ h=>(by cases h)⟩;refine (h w S γ vs hs h2 hd hl).mono ?_;rintro v w' ⟨r,o',nk',S',γ',rfl,k1,k2,k3,k4⟩;have hk:∀ k,k < w.heap.size→w'.heap[k]?=w.heap[k]?:=fun k hk=>k2.kept k hk (by rintro ⟨t,x,ht,_⟩;cases ht);obtain ⟨m1,m2⟩:=h1.more (w':=w') (fun k=>w.heap.size≤k∧k < w'.heap.size) (fun _ h=>h) k2.os k2.tape k2.output k2.size hk;have g:=sr_data (w':=w) (γ':=γ) (o':=o) (S':=fun k=>S k∨(w.heap.size≤k∧k < w'.heap.size)) k3 hx (fun k hk=>by
  rcases k2.s_new k hk with h | h | ⟨t,x,ht,_⟩
  ·exact .inl h
  ·exact .inr ⟨h,k1.s_lt k hk⟩
  ·cases ht)
 exact ⟨_,o,nk,_,γ,⟨rfl,rfl,rfl⟩,m1,m2,g.1,g.2 _⟩
theorem dataL_map:∀ xs:List D,dataL (xs.map .d)=true
 | []=>rfl
 | _ :: r=>dataL_map r
theorem Spec.close {P:Program} {f:FuncId} {xs:List D} {x:D} (h:Spec P f (xs.map .d) (fun _=>none) 0 fun r _ _=>r=.d x):PSpec P f (xs.map .d) (.d x):=Spec.closeR (dataL_map xs) rfl h
theorem xC_ok {P:Program} {X:Env} (hX:EnvOk P X):∀ m,(∀ n c s e s',xC X m n c s=some (e,s')→Ran P n c s e s')∧CallOk P (xCall X m)∧∀ fz,CallOk P (xBody X m fz):=by
 intro m
 induction m using Nat.strongRecOn with
 | _ m ih=>
  cases m with
  | zero=>exact ⟨fun n c s e s' h=>by simp [xC] at h,fun f asx o nk r o' nk' h=>by simp [xCall] at h,fun fz f asx o nk r o' nk' h=>by simp [xBody] at h⟩
  | succ m=>
   obtain ⟨ihC,ihF,ihB⟩:=ih m (by omega);refine ⟨?_,?_,?_⟩
   ·intro n c s e s' h;cases c with
    | skip=>
     simp only [xC,Option.some.injEq,Prod.mk.injEq] at h;obtain ⟨rfl,rfl⟩:=h;exact fun E a w he hr=>wp_skip ⟨rfl,hr⟩
    | ret=>
     simp only [xC,Option.some.injEq,Prod.mk.injEq] at h;obtain ⟨rfl,rfl⟩:=h;exact fun E a w he hr=>wp_ret ⟨rfl,hr⟩
    | exit id=>
     simp only [xC,Option.some.injEq,Prod.mk.injEq] at h;obtain ⟨rfl,rfl⟩:=h;exact fun E a w he hr=>wp_exit ⟨rfl,hr⟩
    | seq x y=>
     simp only [xC] at h;cases hb:xC X m n x s with
     | none=>rw [hb] at h;cases h
     | some p=>
      obtain ⟨e1,s1⟩:=p;rw [hb] at h;have h1:=ihC _ _ _ _ _ hb;intro E a w he hr;refine wp_seq (Go.wp_mono (h1 E a w he hr) ?_);rintro e2 a2 w2 ⟨rfl,h2⟩;cases e2 with
      | normal=>exact ihC _ _ _ _ _ h E a2 w2 he h2
      | _=>
       simp only [Option.some.injEq,Prod.mk.injEq] at h;obtain ⟨rfl,rfl⟩:=h;exact ⟨rfl,h2⟩
    | block id c=>
     simp only [xC] at h;cases hb:xC X m n c s with
     | none=>rw [hb] at h;cases h
     | some p=>
      obtain ⟨e1,s1⟩:=p;rw [hb] at h;have h1:=ihC _ _ _ _ _ hb;intro E a w he hr;refine wp_block (Go.wp_mono (h1 E a w he hr) ?_);rintro e2 a2 w2 ⟨rfl,h2⟩;cases e2 with
      | exit id'=>
       simp only at h;show if id'=id then _ else _
       by_cases hid:id'=id
       ·subst hid;rw [if_pos rfl];simp only [Nat.beq_refl,cond_true,Option.some.injEq,Prod.mk.injEq] at h;obtain ⟨rfl,rfl⟩:=h;exact ⟨rfl,h2⟩
       ·rw [if_neg hid];rw [TM.beq_cond,if_neg hid] at h;simp only [Option.some.injEq,Prod.mk.injEq] at h;obtain ⟨rfl,rfl⟩:=h;exact ⟨rfl,h2⟩
      | _=>
       simp only [Option.some.injEq,Prod.mk.injEq] at h;obtain ⟨rfl,rfl⟩:=h;exact ⟨rfl,h2⟩
    | cond x c d=>
     simp only [xC] at h;intro E a w he hr;split at h
     ·rename_i hx;exact wp_cond_true (cond_bool hr hx) (ihC _ _ _ _ _ h E a w he hr)
     ·rename_i hx;exact wp_cond_false (cond_bool hr hx) (ihC _ _ _ _ _ h E a w he hr)
     ·cases h
    | loop c=>
     intro E a w he hr;obtain ⟨k,hk⟩:=xC_loop (m+1) (fun k hk=>(ih k hk).1) n c s e s' h E he;exact wp_loop_rounds k (hk a w hr)
    | scope c=>
     simp only [xC] at h;cases hb:xC X m n c s with
     | none=>rw [hb] at h;cases h
     | some p=>
      obtain ⟨e1,s1⟩:=p;rw [hb] at h;have h1:=ihC _ _ _ _ _ hb;intro E a w he hr;refine wp_scope_straight (Go.wp_mono (h1 E a w he hr) ?_);rintro e2 a2 w2 ⟨rfl,h2⟩;cases e2 <;> first | (cases h;done) | (simp only [Option.some.injEq,Prod.mk.injEq] at h;obtain ⟨rfl,rfl⟩:=h;exact ⟨rfl,h2⟩)
    | region id ops drawn=>
     unfold xC at h;simp only at h;cases hd:(ops.toList.all fun o=>dstOk n o.dst) with
     | false=>rw [hd] at h;cases h
     | true=>
      rw [hd] at h;simp only [cond_true] at h;cases drawn with
      | false=>
       simp only at h;split at h
       ·rename_i s1 hs1;simp only [Option.some.injEq,Prod.mk.injEq] at h;obtain ⟨rfl,rfl⟩:=h;intro E a w he hr;refine wp_region_list ?_;exact xOps_ok hX.hΘ ihF (fun a w hr=>⟨rfl,hr⟩) _ _ a w (by rw [he];exact hd) hr hs1
       ·cases h
      | true=>
       simp only at h;split at h
       ·rename_i s1 hs1;simp only [Option.some.injEq,Prod.mk.injEq] at h;obtain ⟨rfl,rfl⟩:=h;exact xDrawF_ok hX.hΘ hX.mix ihF hd hs1
       ·cases h
    | _=>simp [xC] at h
   ·intro f asx o nk r o' nk' h;simp only [xCall] at h;split at h
    ·rename_i r0 hd;simp only [Option.some.injEq] at h;subst h;exact hX.memo f asx o nk r o' nk' hd
    split at h
    ·rename_i d hd;simp only [Option.some.injEq,Prod.mk.injEq] at h;obtain ⟨rfl,rfl,rfl⟩:=h;exact hX.nat f asx d hd o.get nk
    ·cases hp:(X.pure f && dataL asx) with
     | false=>
      rw [hp] at h;exact ihB false f asx o nk r o' nk' h
     | true=>
      rw [hp] at h;simp only [cond_true] at h;simp only [Bool.and_eq_true] at hp;cases hb:xBody X m true f asx .e 0 with
      | none=>rw [hb] at h;cases h
      | some q=>
       obtain ⟨r1,o1,k1⟩:=q;rw [hb] at h;simp only at h;cases hd:dataR r1 with
       | false=>rw [hd] at h;cases h
       | true=>
        rw [hd] at h;simp only [cond_true,Option.some.injEq,Prod.mk.injEq] at h;obtain ⟨rfl,rfl,rfl⟩:=h;have hs:=ihB true f asx .e 0 _ _ _ hb;have he:(TM.e:TM AO).get=fun _=>none:=by funext u;rfl
        rw [he] at hs;exact Spec.closeR hp.2 hd (hs.mono fun r2 o2 n2 h=>h.1) o.get nk
   ·intro fz f asx o nk r o' nk' h;simp only [xBody] at h;split at h
    ·cases h
    ·rename_i fn hfn;split at h
     ·cases h
     ·rename_i c hbody;cases hle:Nat.ble asx.length fn.ntmps with
      | false=>rw [hle] at h;cases h
      | true=>
       rw [hle] at h;simp only [cond_true] at h;split at h
       ·cases h
       ·rename_i e s1 hrun;have hrun:=ihC _ _ _ _ _ hrun;split at h
        ·cases h
        ·rename_i he;have he:e=.normal∨e=.ret:=by cases e <;> simp_all
         obtain ⟨k1,k2⟩:=hX.tb f fn hfn;refine Spec.of_bodyC hX.hΘ (rs:=fn.results.toList) (c:=c) (n:=fn.ntmps) ⟨fn,k1,hbody,k2,rfl,rfl⟩ (Nat.le_of_ble_eq_true hle) ?_;rw [← of_list_st];intro E a w hn _ hr;refine Go.wp_mono (hrun E a w hn hr) ?_;rintro e2 a2 w2 ⟨rfl,h2⟩;split at h
         ·rename_i vs s2 hres;simp only [Option.some.injEq,Prod.mk.injEq] at h;obtain ⟨rfl,rfl,rfl⟩:=h;cases fz with
          | true=>exact ret_res (P:=P) he hres (XS.tame_ok h2)
          | false=>exact ret_res (P:=P) he hres h2
         ·split at h
          ·rename_i vs s2 hres;simp only [Option.some.injEq,Prod.mk.injEq] at h;obtain ⟨rfl,rfl,rfl⟩:=h;exact ret_res (P:=P) he hres (XS.frzs_ok _ h2)
          ·cases h
def isD (x:D):Option XR→Bool
 | some (.d y,_,_)=>D.eqb x y
 | _=>false
theorem PSpec.run {P:Program} {X:Env} (hX:EnvOk P X) (m:Nat) {f:FuncId} {xs:List D} {x:D} (h:isD x (xCall X m f (xs.map .d) .e 0)=true):PSpec P f (xs.map .d) (.d x):=by
 refine Spec.close ?_;cases hx:xCall X m f (xs.map .d) .e 0 with
 | none=>rw [hx] at h;cases h
 | some p=>
  obtain ⟨r,o',nk'⟩:=p;rw [hx] at h;have hs:=(xC_ok hX m).2.1 _ _ _ _ _ _ _ hx;have he:(TM.e:TM AO).get=fun _=>none:=by funext u;rfl
  rw [he] at hs;refine hs.mono ?_;rintro r2 o2 n2 ⟨rfl,_,_⟩;cases r2 <;> simp only [isD] at h <;> try (cases h;done)
  rw [D.eqb_ok _ _ h]
def isR (r:SV) (o2:TM AO) (k2:Nat):Option XR→Bool
 | some (r',o',k')=>Nat.beq k2 k' && (SV.eqb r r' && tmB o2 o')
 | _=>false
theorem ME.run {P:Program} {X:Env} (hX:EnvOk P X) (m:Nat) (e:ME) (h:isR e.r e.o2 e.k2 (xCall X m e.f e.a e.o e.k)=true):Spec P e.f e.a e.o.get e.k fun r2 o2 n2=>r2=e.r∧o2=e.o2.get∧n2=e.k2:=by
 cases hx:xCall X m e.f e.a e.o e.k with
 | none=>rw [hx] at h;cases h
 | some p=>
  obtain ⟨r,o',k'⟩:=p;rw [hx] at h;simp only [isR,Bool.and_eq_true] at h;obtain ⟨h1,h2,h3⟩:=h;rw [Nat.eq_of_beq_eq_true h1,SV.eqb_ok h2,tmB_ok h3];exact (xC_ok hX m).2.1 _ _ _ _ _ _ _ hx
def tbF:List (Nat×Func)→Nat→Option Func
 | [],_=>none
 | (k,fn) :: r,f=>bif Nat.beq k f then some fn else tbF r f
theorem tbF_ok {P : Program} : ∀ (l : List (Nat × Func)), (∀ p ∈ l, P.funcs[p.1]? = some p.2 ∧ (p.2.name == "runtime.NumGoroutine") = false) → ∀ f fn, tbF l f = some fn → P.funcs[f]? = some fn ∧ (fn.name == "runtime.NumGoroutine") = false
 | [],_,f,fn,h=>by simp [tbF] at h
 | (k,g) :: r,hl,f,fn,h=>by
  simp only [tbF,TM.beq_cond] at h;split at h
  ·rename_i hk;subst hk;simp only [Option.some.injEq] at h;subst h;exact hl (k,g) (by simp)
  ·exact tbF_ok r (fun p hp=>hl p (by simp [hp])) f fn h
end Go.Proofs.YtpkcbdhjnnnkbaaGreat.Abs

set_option linter.unusedVariables false
set_option maxRecDepth 100000
namespace Go.Proofs.YtpkcbdhjnnnkbaaGreat.Abs.Run44
open Go
noncomputable def tbl:List (Nat×Func):=[(34,Tryz.f34),(36,Tryz.f36),(38,Tryz.f38),(39,Tryz.f39),(41,Tryz.f41),(42,Tryz.f42),(44,Tryz.f44),(45,Tryz.f45),(47,Tryz.f47),(48,Tryz.f48),(50,Tryz.f50),(51,Tryz.f51),(54,Tryz.f54),(56,Tryz.f56),(70,Tryz.f70),(71,Tryz.f71),(72,Tryz.f72),(73,Tryz.f73),(74,Tryz.f74),(75,Tryz.f75),(76,Tryz.f76),(77,Tryz.f77),(84,Tryz.f84),(85,Tryz.f85),(86,Tryz.f86),(87,Tryz.f87),(92,Tryz.f92),(93,Tryz.f93),(98,Tryz.f98),(99,Tryz.f99),(100,Tryz.f100),(101,Tryz.f101),(102,Tryz.f102),(103,Tryz.f103),(104,Tryz.f104),(106,Tryz.f106),(107,Tryz.f107),(108,Tryz.f108),(109,Tryz.f109),(110,Tryz.f110),(111,Tryz.f111),(112,Tryz.f112),(114,Tryz.f114),(119,Tryz.f119),(120,Tryz.f120),(121,Tryz.f121),(122,Tryz.f122),(123,Tryz.f123),(124,Tryz.f124),(125,Tryz.f125),(126,Tryz.f126),(127,Tryz.f127),(128,Tryz.f128),(129,Tryz.f129),(130,Tryz.f130),(137,Tryz.f137),(138,Tryz.f138),(139,Tryz.f139),(142,Tryz.f142),(143,Tryz.f143),(146,Tryz.f146),(147,Tryz.f147),(148,Tryz.f148),(149,Tryz.f149),(150,Tryz.f150),(151,Tryz.f151),(152,Tryz.f152),(153,Tryz.f153),(154,Tryz.f154),(155,Tryz.f155),(156,Tryz.f156),(157,Tryz.f157),(158,Tryz.f158),(159,Tryz.f159),(160,Tryz.f160),(161,Tryz.f161),(162,Tryz.f162),(163,Tryz.f163),(169,Tryz.f169),(172,Tryz.f172),(173,Tryz.f173),(174,Tryz.f174),(175,Tryz.f175),(176,Tryz.f176),(177,Tryz.f177),(178,Tryz.f178),(179,Tryz.f179),(180,Tryz.f180),(181,Tryz.f181),(182,Tryz.f182),(183,Tryz.f183),(184,Tryz.f184),(185,Tryz.f185),(186,Tryz.f186),(187,Tryz.f187),(194,Tryz.f194),(195,Tryz.f195),(196,Tryz.f196),(197,Tryz.f197),(199,Tryz.f199),(202,Tryz.f202),(203,Tryz.f203),(204,Tryz.f204),(205,Tryz.f205),(206,Tryz.f206),(207,Tryz.f207),(209,Tryz.f209),(210,Tryz.f210),(211,Tryz.f211)]
theorem tbl_ok : ∀ p ∈ tbl, Tryz.prog.funcs[p.1]? = some p.2 ∧ (p.2.name == "runtime.NumGoroutine") = false := by
 simp only [tbl,List.forall_mem_cons];exact ⟨⟨Tryz.func34,by kernel_rfl⟩,⟨Tryz.func36,by kernel_rfl⟩,⟨Tryz.func38,by kernel_rfl⟩,⟨Tryz.func39,by kernel_rfl⟩,⟨Tryz.func41,by kernel_rfl⟩,⟨Tryz.func42,by kernel_rfl⟩,⟨Tryz.func44,by kernel_rfl⟩,⟨Tryz.func45,by kernel_rfl⟩,⟨Tryz.func47,by kernel_rfl⟩,⟨Tryz.func48,by kernel_rfl⟩,⟨Tryz.func50,by kernel_rfl⟩,⟨Tryz.func51,by kernel_rfl⟩,⟨Tryz.func54,by kernel_rfl⟩,⟨Tryz.func56,by kernel_rfl⟩,⟨Tryz.func70,by kernel_rfl⟩,⟨Tryz.func71,by kernel_rfl⟩,⟨Tryz.func72,by kernel_rfl⟩,⟨Tryz.func73,by kernel_rfl⟩,⟨Tryz.func74,by kernel_rfl⟩,⟨Tryz.func75,by kernel_rfl⟩,⟨Tryz.func76,by kernel_rfl⟩,⟨Tryz.func77,by kernel_rfl⟩,⟨Tryz.func84,by kernel_rfl⟩,⟨Tryz.func85,by kernel_rfl⟩,⟨Tryz.func86,by kernel_rfl⟩,⟨Tryz.func87,by kernel_rfl⟩,⟨Tryz.func92,by kernel_rfl⟩,⟨Tryz.func93,by kernel_rfl⟩,⟨Tryz.func98,by kernel_rfl⟩,⟨Tryz.func99,by kernel_rfl⟩,⟨Tryz.func100,by kernel_rfl⟩,⟨Tryz.func101,by kernel_rfl⟩,⟨Tryz.func102,by kernel_rfl⟩,⟨Tryz.func103,by kernel_rfl⟩,⟨Tryz.func104,by kernel_rfl⟩,⟨Tryz.func106,by kernel_rfl⟩,⟨Tryz.func107,by kernel_rfl⟩,⟨Tryz.func108,by kernel_rfl⟩,⟨Tryz.func109,by kernel_rfl⟩,⟨Tryz.func110,by kernel_rfl⟩,⟨Tryz.func111,by kernel_rfl⟩,⟨Tryz.func112,by kernel_rfl⟩,⟨Tryz.func114,by kernel_rfl⟩,⟨Tryz.func119,by kernel_rfl⟩,⟨Tryz.func120,by kernel_rfl⟩,⟨Tryz.func121,by kernel_rfl⟩,⟨Tryz.func122,by kernel_rfl⟩,⟨Tryz.func123,by kernel_rfl⟩,⟨Tryz.func124,by kernel_rfl⟩,⟨Tryz.func125,by kernel_rfl⟩,⟨Tryz.func126,by kernel_rfl⟩,⟨Tryz.func127,by kernel_rfl⟩,⟨Tryz.func128,by kernel_rfl⟩,⟨Tryz.func129,by kernel_rfl⟩,⟨Tryz.func130,by kernel_rfl⟩,⟨Tryz.func137,by kernel_rfl⟩,⟨Tryz.func138,by kernel_rfl⟩,⟨Tryz.func139,by kernel_rfl⟩,⟨Tryz.func142,by kernel_rfl⟩,⟨Tryz.func143,by kernel_rfl⟩,⟨Tryz.func146,by kernel_rfl⟩,⟨Tryz.func147,by kernel_rfl⟩,⟨Tryz.func148,by kernel_rfl⟩,⟨Tryz.func149,by kernel_rfl⟩,⟨Tryz.func150,by kernel_rfl⟩,⟨Tryz.func151,by kernel_rfl⟩,⟨Tryz.func152,by kernel_rfl⟩,⟨Tryz.func153,by kernel_rfl⟩,⟨Tryz.func154,by kernel_rfl⟩,⟨Tryz.func155,by kernel_rfl⟩,⟨Tryz.func156,by kernel_rfl⟩,⟨Tryz.func157,by kernel_rfl⟩,⟨Tryz.func158,by kernel_rfl⟩,⟨Tryz.func159,by kernel_rfl⟩,⟨Tryz.func160,by kernel_rfl⟩,⟨Tryz.func161,by kernel_rfl⟩,⟨Tryz.func162,by kernel_rfl⟩,⟨Tryz.func163,by kernel_rfl⟩,⟨Tryz.func169,by kernel_rfl⟩,⟨Tryz.func172,by kernel_rfl⟩,⟨Tryz.func173,by kernel_rfl⟩,⟨Tryz.func174,by kernel_rfl⟩,⟨Tryz.func175,by kernel_rfl⟩,⟨Tryz.func176,by kernel_rfl⟩,⟨Tryz.func177,by kernel_rfl⟩,⟨Tryz.func178,by kernel_rfl⟩,⟨Tryz.func179,by kernel_rfl⟩,⟨Tryz.func180,by kernel_rfl⟩,⟨Tryz.func181,by kernel_rfl⟩,⟨Tryz.func182,by kernel_rfl⟩,⟨Tryz.func183,by kernel_rfl⟩,⟨Tryz.func184,by kernel_rfl⟩,⟨Tryz.func185,by kernel_rfl⟩,⟨Tryz.func186,by kernel_rfl⟩,⟨Tryz.func187,by kernel_rfl⟩,⟨Tryz.func194,by kernel_rfl⟩,⟨Tryz.func195,by kernel_rfl⟩,⟨Tryz.func196,by kernel_rfl⟩,⟨Tryz.func197,by kernel_rfl⟩,⟨Tryz.func199,by kernel_rfl⟩,⟨Tryz.func202,by kernel_rfl⟩,⟨Tryz.func203,by kernel_rfl⟩,⟨Tryz.func204,by kernel_rfl⟩,⟨Tryz.func205,by kernel_rfl⟩,⟨Tryz.func206,by kernel_rfl⟩,⟨Tryz.func207,by kernel_rfl⟩,⟨Tryz.func209,by kernel_rfl⟩,⟨Tryz.func210,by kernel_rfl⟩,⟨Tryz.func211,by kernel_rfl⟩,by simp⟩
noncomputable def nofr:List Nat:=[34,38,54,85,87,92,93,104,106,107,108,109,138,139,143,151,179,180]
noncomputable def pures:List Nat:=[45,47,48,51,56,70,71,72,73,74,76,77,98,99,100,101,102,103,110,111,114,120,122,123,124,125,126,128,130,146,147,148,149,150,152,153,155,156,157,158,160,161,162,172,173,174,175,176,181,182,183,184,186,187,194,195,196,197,199,202,203,204,205,206,207,209,210,211]
def natF (f:Nat) (asx:List SV):Option D:=
 match asx with
 | [.d (.str s),.d (.int .u8 c)]=>bif Nat.beq f 208 then some (.int .i64 (Go.Lib.indexByte s c.toNat.toUInt8)) else none
 | [.d (.str s),.d (.str t)]=>bif Nat.beq f 212 then some (.int .i64 (Go.Lib.compareBytes s t)) else none
 | _=>none
theorem natF_ok (f:Nat) (asx:List SV) (d:D) (h:natF f asx=some d):PSpec Tryz.prog f asx (.d d):=by
 unfold natF at h;split at h
 ·rw [TM.beq_cond] at h;split at h
  ·rename_i hf;subst hf;simp only [Option.some.injEq] at h;subst h;exact s208 _ _
  ·cases h
 ·rw [TM.beq_cond] at h;split at h
  ·rename_i hf;subst hf;simp only [Option.some.injEq] at h;subst h;exact s212 _ _
  ·cases h
 ·cases h
noncomputable def env:Env:=⟨Θ,tbF tbl,natF,fun f=>(nofr++[0,1,2,3,4,5,6,7,8,9,10,11,12,13,14,15,16,17,18,19,20,21,22,23,24,25,26,27,28,29,30,31,32,33,34,35,36,37,38,39,40,41,42,43,44,45,46,47,48,49,50,51,52,53,54,55,56,57,58,59,60,61,62,63,64,65,66,67,68,69,70,71,72,73,74,75,76,77,78,79,80,81,82,83,84,85,86,87,88,89,90,91,92,93,94,95,96,97,98,99,100,101,102,103,104,105,106,107,108,109,110,111,112,113,114,115,116,117,118,119,120,121,122,123,124,125,126,127,128,129,130,131,132,133,134,135,136,137,138,139,140,141,142,143,144,145,146,147,148,149,150,151,152,153,154,155,156,157,158,159,160,161,162,163,164,165,166,167,168,169,170,171,172,173,174,175,176,177,178,179,180,181,182,183,184,185,186,187,188,189,190,191,192,193,194,195,196,197,198,199,200,201,202,203,204,205,206,207,208,209,210,211,212,213,214,215,216,217,218,219,220,221,222,223,224,225,226,227,228,229,230,231,232,233,234,235,236,237,238,239,240,241,242,243,244,245,246,247,248,249,250,251,252,253,254,255,256,257,258,259,260,261,262,263,264,265,266,267,268,269,270,271,272,273,274,275,276,277,278,279,280,281,282,283,284,285,286,287,288,289,290,291,292,293,294,295,296,297,298,299,300,301,302,303,304,305,306,307,308,309,310,311,312,313,314,315,316,317,318,319,320,321,322,323,324,325,326,327,328,329,330]).contains f,fun f=>pures.contains f,fun _ _ _ _=>none⟩
theorem envOk:EnvOk Tryz.prog env:=⟨tabOk,fun f fn h=>tbF_ok tbl tbl_ok f fn h,natF_ok,mix,fun _ _ _ _ _ _ _ h=>by cases h⟩
theorem ran:isD (.bool true) (xCall env 1000000 44 (([]:List D).map .d) .e 0)=true:=by kernel_rfl
theorem s:PSpec Tryz.prog 44 (([]:List D).map .d) (.d (.bool true)):=PSpec.run envOk 1000000 (xs:=([]:List D)) ran
end Go.Proofs.YtpkcbdhjnnnkbaaGreat.Abs.Run44
namespace Go.Proofs.YtpkcbdhjnnnkbaaGreat.Abs
theorem s44:PSpec Tryz.prog 44 (([]:List D).map .d) (.d (.bool true)):=Run44.s
end Go.Proofs.YtpkcbdhjnnnkbaaGreat.Abs

set_option linter.unusedVariables false
set_option maxRecDepth 100000
namespace Go.Proofs.YtpkcbdhjnnnkbaaGreat.Abs.Run54
open Go
noncomputable def tbl:List (Nat×Func):=[(38,Tryz.f38),(41,Tryz.f41),(42,Tryz.f42),(45,Tryz.f45),(48,Tryz.f48),(54,Tryz.f54),(56,Tryz.f56),(71,Tryz.f71),(72,Tryz.f72),(73,Tryz.f73),(74,Tryz.f74),(76,Tryz.f76),(77,Tryz.f77),(92,Tryz.f92),(93,Tryz.f93),(99,Tryz.f99),(100,Tryz.f100),(101,Tryz.f101),(102,Tryz.f102),(103,Tryz.f103),(106,Tryz.f106),(107,Tryz.f107),(108,Tryz.f108),(109,Tryz.f109),(110,Tryz.f110),(111,Tryz.f111),(112,Tryz.f112),(114,Tryz.f114),(121,Tryz.f121),(122,Tryz.f122),(123,Tryz.f123),(124,Tryz.f124),(125,Tryz.f125),(126,Tryz.f126),(127,Tryz.f127),(128,Tryz.f128),(129,Tryz.f129),(130,Tryz.f130),(137,Tryz.f137),(138,Tryz.f138),(142,Tryz.f142),(143,Tryz.f143),(147,Tryz.f147),(148,Tryz.f148),(149,Tryz.f149),(150,Tryz.f150),(151,Tryz.f151),(152,Tryz.f152),(153,Tryz.f153),(154,Tryz.f154),(155,Tryz.f155),(156,Tryz.f156),(157,Tryz.f157),(159,Tryz.f159),(160,Tryz.f160),(161,Tryz.f161),(162,Tryz.f162),(163,Tryz.f163),(169,Tryz.f169),(172,Tryz.f172),(173,Tryz.f173),(174,Tryz.f174),(175,Tryz.f175),(176,Tryz.f176),(177,Tryz.f177),(178,Tryz.f178),(179,Tryz.f179),(180,Tryz.f180),(181,Tryz.f181),(182,Tryz.f182),(183,Tryz.f183),(184,Tryz.f184),(186,Tryz.f186),(187,Tryz.f187),(194,Tryz.f194),(195,Tryz.f195),(196,Tryz.f196),(197,Tryz.f197),(199,Tryz.f199),(202,Tryz.f202),(203,Tryz.f203),(204,Tryz.f204),(205,Tryz.f205),(206,Tryz.f206),(207,Tryz.f207),(209,Tryz.f209),(210,Tryz.f210),(211,Tryz.f211)]
theorem tbl_ok : ∀ p ∈ tbl, Tryz.prog.funcs[p.1]? = some p.2 ∧ (p.2.name == "runtime.NumGoroutine") = false := by
 simp only [tbl,List.forall_mem_cons];exact ⟨⟨Tryz.func38,by kernel_rfl⟩,⟨Tryz.func41,by kernel_rfl⟩,⟨Tryz.func42,by kernel_rfl⟩,⟨Tryz.func45,by kernel_rfl⟩,⟨Tryz.func48,by kernel_rfl⟩,⟨Tryz.func54,by kernel_rfl⟩,⟨Tryz.func56,by kernel_rfl⟩,⟨Tryz.func71,by kernel_rfl⟩,⟨Tryz.func72,by kernel_rfl⟩,⟨Tryz.func73,by kernel_rfl⟩,⟨Tryz.func74,by kernel_rfl⟩,⟨Tryz.func76,by kernel_rfl⟩,⟨Tryz.func77,by kernel_rfl⟩,⟨Tryz.func92,by kernel_rfl⟩,⟨Tryz.func93,by kernel_rfl⟩,⟨Tryz.func99,by kernel_rfl⟩,⟨Tryz.func100,by kernel_rfl⟩,⟨Tryz.func101,by kernel_rfl⟩,⟨Tryz.func102,by kernel_rfl⟩,⟨Tryz.func103,by kernel_rfl⟩,⟨Tryz.func106,by kernel_rfl⟩,⟨Tryz.func107,by kernel_rfl⟩,⟨Tryz.func108,by kernel_rfl⟩,⟨Tryz.func109,by kernel_rfl⟩,⟨Tryz.func110,by kernel_rfl⟩,⟨Tryz.func111,by kernel_rfl⟩,⟨Tryz.func112,by kernel_rfl⟩,⟨Tryz.func114,by kernel_rfl⟩,⟨Tryz.func121,by kernel_rfl⟩,⟨Tryz.func122,by kernel_rfl⟩,⟨Tryz.func123,by kernel_rfl⟩,⟨Tryz.func124,by kernel_rfl⟩,⟨Tryz.func125,by kernel_rfl⟩,⟨Tryz.func126,by kernel_rfl⟩,⟨Tryz.func127,by kernel_rfl⟩,⟨Tryz.func128,by kernel_rfl⟩,⟨Tryz.func129,by kernel_rfl⟩,⟨Tryz.func130,by kernel_rfl⟩,⟨Tryz.func137,by kernel_rfl⟩,⟨Tryz.func138,by kernel_rfl⟩,⟨Tryz.func142,by kernel_rfl⟩,⟨Tryz.func143,by kernel_rfl⟩,⟨Tryz.func147,by kernel_rfl⟩,⟨Tryz.func148,by kernel_rfl⟩,⟨Tryz.func149,by kernel_rfl⟩,⟨Tryz.func150,by kernel_rfl⟩,⟨Tryz.func151,by kernel_rfl⟩,⟨Tryz.func152,by kernel_rfl⟩,⟨Tryz.func153,by kernel_rfl⟩,⟨Tryz.func154,by kernel_rfl⟩,⟨Tryz.func155,by kernel_rfl⟩,⟨Tryz.func156,by kernel_rfl⟩,⟨Tryz.func157,by kernel_rfl⟩,⟨Tryz.func159,by kernel_rfl⟩,⟨Tryz.func160,by kernel_rfl⟩,⟨Tryz.func161,by kernel_rfl⟩,⟨Tryz.func162,by kernel_rfl⟩,⟨Tryz.func163,by kernel_rfl⟩,⟨Tryz.func169,by kernel_rfl⟩,⟨Tryz.func172,by kernel_rfl⟩,⟨Tryz.func173,by kernel_rfl⟩,⟨Tryz.func174,by kernel_rfl⟩,⟨Tryz.func175,by kernel_rfl⟩,⟨Tryz.func176,by kernel_rfl⟩,⟨Tryz.func177,by kernel_rfl⟩,⟨Tryz.func178,by kernel_rfl⟩,⟨Tryz.func179,by kernel_rfl⟩,⟨Tryz.func180,by kernel_rfl⟩,⟨Tryz.func181,by kernel_rfl⟩,⟨Tryz.func182,by kernel_rfl⟩,⟨Tryz.func183,by kernel_rfl⟩,⟨Tryz.func184,by kernel_rfl⟩,⟨Tryz.func186,by kernel_rfl⟩,⟨Tryz.func187,by kernel_rfl⟩,⟨Tryz.func194,by kernel_rfl⟩,⟨Tryz.func195,by kernel_rfl⟩,⟨Tryz.func196,by kernel_rfl⟩,⟨Tryz.func197,by kernel_rfl⟩,⟨Tryz.func199,by kernel_rfl⟩,⟨Tryz.func202,by kernel_rfl⟩,⟨Tryz.func203,by kernel_rfl⟩,⟨Tryz.func204,by kernel_rfl⟩,⟨Tryz.func205,by kernel_rfl⟩,⟨Tryz.func206,by kernel_rfl⟩,⟨Tryz.func207,by kernel_rfl⟩,⟨Tryz.func209,by kernel_rfl⟩,⟨Tryz.func210,by kernel_rfl⟩,⟨Tryz.func211,by kernel_rfl⟩,by simp⟩
noncomputable def nofr:List Nat:=[38,54,92,93,106,107,108,109,138,143,151,179,180]
noncomputable def pures:List Nat:=[45,48,56,71,72,73,74,76,77,99,100,101,102,103,110,111,114,122,123,124,125,126,128,130,147,148,149,150,152,153,155,156,157,160,161,162,172,173,174,175,176,181,182,183,184,186,187,194,195,196,197,199,202,203,204,205,206,207,209,210,211]
def natF (f:Nat) (asx:List SV):Option D:=
 match asx with
 | [.d (.str s),.d (.int .u8 c)]=>bif Nat.beq f 208 then some (.int .i64 (Go.Lib.indexByte s c.toNat.toUInt8)) else none
 | [.d (.str s),.d (.str t)]=>bif Nat.beq f 212 then some (.int .i64 (Go.Lib.compareBytes s t)) else none
 | _=>none
theorem natF_ok (f:Nat) (asx:List SV) (d:D) (h:natF f asx=some d):PSpec Tryz.prog f asx (.d d):=by
 unfold natF at h;split at h
 ·rw [TM.beq_cond] at h;split at h
  ·rename_i hf;subst hf;simp only [Option.some.injEq] at h;subst h;exact s208 _ _
  ·cases h
 ·rw [TM.beq_cond] at h;split at h
  ·rename_i hf;subst hf;simp only [Option.some.injEq] at h;subst h;exact s212 _ _
  ·cases h
 ·cases h
noncomputable def env:Env:=⟨Θ,tbF tbl,natF,fun f=>(nofr++[0,1,2,3,4,5,6,7,8,9,10,11,12,13,14,15,16,17,18,19,20,21,22,23,24,25,26,27,28,29,30,31,32,33,34,35,36,37,38,39,40,41,42,43,44,45,46,47,48,49,50,51,52,53,54,55,56,57,58,59,60,61,62,63,64,65,66,67,68,69,70,71,72,73,74,75,76,77,78,79,80,81,82,83,84,85,86,87,88,89,90,91,92,93,94,95,96,97,98,99,100,101,102,103,104,105,106,107,108,109,110,111,112,113,114,115,116,117,118,119,120,121,122,123,124,125,126,127,128,129,130,131,132,133,134,135,136,137,138,139,140,141,142,143,144,145,146,147,148,149,150,151,152,153,154,155,156,157,158,159,160,161,162,163,164,165,166,167,168,169,170,171,172,173,174,175,176,177,178,179,180,181,182,183,184,185,186,187,188,189,190,191,192,193,194,195,196,197,198,199,200,201,202,203,204,205,206,207,208,209,210,211,212,213,214,215,216,217,218,219,220,221,222,223,224,225,226,227,228,229,230,231,232,233,234,235,236,237,238,239,240,241,242,243,244,245,246,247,248,249,250,251,252,253,254,255,256,257,258,259,260,261,262,263,264,265,266,267,268,269,270,271,272,273,274,275,276,277,278,279,280,281,282,283,284,285,286,287,288,289,290,291,292,293,294,295,296,297,298,299,300,301,302,303,304,305,306,307,308,309,310,311,312,313,314,315,316,317,318,319,320,321,322,323,324,325,326,327,328,329,330]).contains f,fun f=>pures.contains f,fun _ _ _ _=>none⟩
theorem envOk:EnvOk Tryz.prog env:=⟨tabOk,fun f fn h=>tbF_ok tbl tbl_ok f fn h,natF_ok,mix,fun _ _ _ _ _ _ _ h=>by cases h⟩
theorem ran:isD (.agg [.int .i64 0,.int .i64 0,.str [],.str [],.int .i64 0,.int .i64 0,.str [],.nil,.nil,.int .i64 0,.int .i64 0,.str [],.nil,.nil,.nil,.int .i64 0,.int .i64 0]) (xCall env 1000000 54 ([D.nilp].map .d) .e 0)=true:=by kernel_rfl
theorem s:PSpec Tryz.prog 54 ([D.nilp].map .d) (.d (.agg [.int .i64 0,.int .i64 0,.str [],.str [],.int .i64 0,.int .i64 0,.str [],.nil,.nil,.int .i64 0,.int .i64 0,.str [],.nil,.nil,.nil,.int .i64 0,.int .i64 0])):=PSpec.run envOk 1000000 (xs:=[D.nilp]) ran
end Go.Proofs.YtpkcbdhjnnnkbaaGreat.Abs.Run54
namespace Go.Proofs.YtpkcbdhjnnnkbaaGreat.Abs
theorem s54nil:PSpec Tryz.prog 54 ([D.nilp].map .d) (.d (.agg [.int .i64 0,.int .i64 0,.str [],.str [],.int .i64 0,.int .i64 0,.str [],.nil,.nil,.int .i64 0,.int .i64 0,.str [],.nil,.nil,.nil,.int .i64 0,.int .i64 0])):=Run54.s
end Go.Proofs.YtpkcbdhjnnnkbaaGreat.Abs

set_option linter.unusedVariables false
set_option linter.unusedSimpArgs false
set_option maxRecDepth 10000
set_option maxHeartbeats 1000000
namespace Go.Proofs.YtpkcbdhjnnnkbaaGreat.Abs
open Go
theorem rdEt_le {rv:SB→Val×SB} {rd:SB→List Dlt×SB} (hv:∀ s,(rv s).2.1.length≤s.1.length) (hd:∀ s,(rd s).2.1.length≤s.1.length) (s:SB):(rdEt rv rd s).2.1.length≤s.1.length:=by
 unfold rdEt;split <;> exact eL_le hv hd s
theorem fn12:FnOk Tryz.prog 12 63 [4] (bodyOf Tryz.f12):=⟨Tryz.f12,Tryz.func12,by kernel_rfl,by decide,by kernel_rfl,by kernel_rfl⟩
theorem s12 (b:List UInt8) (x:Int):PSpec Tryz.prog 12 [.d (.sl 1 (b.map encB)),.d (.int .i64 x)] (.d (.bool true)):=by
 refine PSpec.of fn12 (by simp) fun o nk=>?_;refine wr ?_;refine ua ?_;refine u_nil ?_;refine WP.seq fun K2 hK2=>?_;refine wr ?_;refine um ?_;refine un th52 ?_;refine ub ?_;refine u_nil ?_;refine wc (fun hc4=>?_) (fun hc4=>?_) <;> try simp only [Q0,Q1,Q2,Q3,Q4,Q5,Q6,Q7,Q8,ge_iff_le,gt_iff_lt] at hc4
 ·
  refine wr ?_;refine u_step (o_pcall (s44) rfl ?_);refine ua ?_;refine u_nil ?_;refine WP.ret ?_;refine ret_ok rfl ?_ (by omega) (fun _ _=>rfl);rfl
 ·
  have hlen:b.length≤20000:=by have hgo:=hc4;simp at hgo;omega
  refine WP.skip ?_;refine hK2 _ ?_;refine wr ?_;refine u_step (g_bs0 th52 rfl th5 rfl rfl (by decide) fun o7 hb7 hk7=>?_);refine um ?_;refine u_step (g_ap rfl rfl th52 rfl th5 rfl rfl (by decide) rfl hb7 (by simp;omega) (by simp;omega) fun o8 hb8 hk8=>?_);refine u_step (o_lcallF (us:=[.row _]) hb8 (fun o=>s36 b o _) rfl (by simp [SV.frz]) fun o9 hb9 hk9=>?_);refine u_step (o_assignV (v:=.loc _ _) rfl ?_);refine u_nil ?_;refine wr ?_;refine um ?_;refine u_step (o_bu rfl th63 rfl rfl ?_);refine u_step (g_box rfl fun o11 hb11 hk11=>?_);have hb9_11:=(hk11 _ (by omega)).trans hb9;refine u_step (o_assignV (v:=.loc _ _) rfl ?_);refine u_nil ?_;refine WP.seq fun K12 hK12=>?_;refine wr ?_;refine u_step (o_pcall (s44) rfl ?_);refine uN ?_;refine um ?_;apply gF
  ·rfl
  ·intro hg;refine o_moveV (v:=.loc _ _) rfl ⟨rfl,rfl,rfl⟩
  apply gF
  ·rfl
  ·intro hg;try simp only [hg,ct];try simp only [hg,ct,Bt]
   refine o_pnil rfl rfl th55 rfl hb9_11 ⟨rfl,rfl,rfl⟩
  refine uO ?_;refine u_nil ?_;refine wc (fun hc14=>?_) (fun hc14=>?_) <;> try simp only [Q0,Q1,Q2,Q3,Q4,Q5,Q6,Q7,Q8,ge_iff_le,gt_iff_lt] at hc14
  ·
   simp at hc14
  ·
   refine WP.skip ?_;refine hK12 _ ?_;refine WP.seq fun K15 hK15=>?_;refine wr ?_;refine ua ?_;refine u_nil ?_;refine WP.block ?_;refine WP.loopL (ι:=Nat×SB×SB×(Nat→Option AO)×Nat) (fun ⟨i,sa,sb,o2,nk2⟩=>⟨al [(1,.d (.int .i64 x)),(5,.loc ((nk+1)+1) 0),(6,.loc (((nk+1)+1)+1) 0),(7,.d (.int .i64 i))],o2,nk2⟩) (fun ⟨i,sa,sb,o2,nk2⟩=>i≤10∧nk+4≤nk2∧SBq sa sb∧sa.1.length≤20000∧sb.1.length≤20000∧o2 ((nk+1)+1)=some (.box (srcS sa))∧o2 (((nk+1)+1)+1)=some (.box (srcS sb))∧∀ t,t < nk→o2 t=o t) (fun ⟨i,sa,sb,o2,nk2⟩=>10 - i) (fun ⟨i,sa,sb,o2,nk2⟩ hA=>?_) ⟨0,(b,false),(b,false),o11,((((nk+1)+1)+1)+1)⟩ ?_ ?_
   ·
    obtain ⟨hle,hnk,hsq,hsa,hsb,hP,hR,hfr⟩:=hA;refine WP.seq fun K17 hK17=>?_;refine wr ?_;refine um ?_;refine um ?_;refine ub ?_;refine um ?_;apply gT
    ·rfl
    ·intro hg;exact pm
    apply gT
    ·rfl
    ·intro hg;try simp only [hg,ct];try simp only [hg,ct,Bt]
     exact pb
    refine uA ?_;refine u_nil ?_;refine wc (fun hc19=>?_) (fun hc19=>?_) <;> try simp only [Q0,Q1,Q2,Q3,Q4,Q5,Q6,Q7,Q8,ge_iff_le,gt_iff_lt] at hc19
    ·
     have hgo:=hc19;simp at hgo;have hqq:=rdEt_q hsq;have hla:=rdEt_le rdAll_le rdDsP_le sa;have hlb:=rdEt_le rdAllR_le rdDsR_le sb;refine WP.skip ?_;refine hK17 _ ?_;refine WP.seq fun K20 hK20=>?_;refine WP.block ?_;refine wr ?_;refine u_step (o_moveV (v:=.loc _ _) rfl ?_);refine u_step (g_mcall (s54 sa (by omega)) hP rfl fun o22 hb22 hk22=>?_);have hR_22:=(hk22 _ (by omega)).trans hR;refine u_step (o_moveV (v:=.loc _ _) rfl ?_);refine u_step (g_mcall (s55 sb (by omega)) hR_22 rfl fun o23 hb23 hk23=>?_);have hb22_23:=(hk23 _ (by omega)).trans hb22;refine u_step (g_alloc th30 rfl fun o24 hb24 hk24=>?_);have hb22_24:=(hk24 _ (by omega)).trans hb22_23;have hb23_24:=(hk24 _ (by omega)).trans hb23;refine u_step (g_alloc th30 rfl fun o25 hb25 hk25=>?_);have hb22_25:=(hk25 _ (by omega)).trans hb22_24;have hb23_25:=(hk25 _ (by omega)).trans hb23_24;have hb24_25:=(hk25 _ (by omega)).trans hb24;refine u_step0 (g_sta rfl rfl th30 rfl hb24_25 (by first | (simp;done) | (simp [D.leaves,D.width,valCells];done) | decide) fun o26 hb26 hk26=>?_);have hb22_26:=(hk26 _ (by omega)).trans hb22_25;have hb23_26:=(hk26 _ (by omega)).trans hb23_25;have hb25_26:=(hk26 _ (by omega)).trans hb25;refine u_step0 (g_sta rfl rfl th30 rfl hb25_26 (by first | (simp;done) | (simp [D.leaves,D.width,valCells];done) | decide) fun o27 hb27 hk27=>?_);have hb22_27:=(hk27 _ (by omega)).trans hb22_26;have hb23_27:=(hk27 _ (by omega)).trans hb23_26;have hb26_27:=(hk27 _ (by omega)).trans hb26;refine u_nil ?_;refine wd ?_;refine dg th30 hb26_27 ?_;refine dg th30 hb27 ?_;refine d_step (o_pcall (s46 _ _) rfl ⟨rfl,rfl,rfl⟩) ?_;refine dN ?_;refine dm ?_;apply d_guard
     ·exact GC.f _
     ·intro hg;refine o_moveV (v:=.loc _ _) rfl ⟨rfl,rfl,rfl⟩
     apply d_guard
     ·exact GC.f _
     ·intro hg;try simp only [hg,ct];try simp only [hg,ct,Bt]
      refine o_scall (s41 _ hb22_27) rfl ⟨rfl,rfl,rfl⟩
     apply d_guard
     ·exact GC.f _
     ·intro hg;refine o_moveV (v:=.loc _ _) rfl ⟨rfl,rfl,rfl⟩
     apply d_guard
     ·exact GC.f _
     ·intro hg;try simp only [hg,ct];try simp only [hg,ct,Bt]
      refine o_nc rfl hb23_27 ⟨rfl,rfl,rfl⟩
     apply d_guard
     ·exact GC.f _
     ·intro hg;try simp only [hg,ct];try simp only [hg,ct,Bt]
      exact pf th63 th4 hb23_27
     apply d_guard
     ·exact GC.f _
     ·intro hg;try simp only [hg,ct];try simp only [hg,ct,Bt]
      exact pl th4 hb23_27
     apply d_guard
     ·exact GC.f _
     ·intro hg;try simp only [hg,ct];try simp only [hg,ct,Bt]
      refine o_bin_neb rfl rfl th4 rfl ⟨rfl,rfl,rfl⟩
     refine dO ?_;refine dm ?_;apply d_guard
     ·exact GC.f _
     ·intro hg;refine o_moveV (v:=.loc _ _) rfl ⟨rfl,rfl,rfl⟩
     apply d_guard
     ·exact GC.f _
     ·intro hg;try simp only [hg,ct];try simp only [hg,ct,Bt]
      refine o_scall (s42 _ hb22_27) rfl ⟨rfl,rfl,rfl⟩
     apply d_guard
     ·exact GC.f _
     ·intro hg;refine o_moveV (v:=.loc _ _) rfl ⟨rfl,rfl,rfl⟩
     apply d_guard
     ·exact GC.f _
     ·intro hg;try simp only [hg,ct];try simp only [hg,ct,Bt]
      refine o_scall (s43 _ hb23_27) rfl ⟨rfl,rfl,rfl⟩
     apply d_guard
     ·exact GC.f _
     ·intro hg;try simp only [hg,ct];try simp only [hg,ct,Bt]
      exact pb
     refine dO ?_;refine d_nil ?_;refine wc (fun hc29=>?_) (fun hc29=>?_) <;> try simp only [Q0,Q1,Q2,Q3,Q4,Q5,Q6,Q7,Q8,ge_iff_le,gt_iff_lt] at hc29
     ·
      exfalso;have e1:=hqq.1;have e2:=hqq.2.1;have e3:=left_q hqq.2;have hg9:=hc29;simp [e1,e2,e3,sameE_refl] at hg9
     ·
      refine WP.skip ?_;refine hK20 _ ?_;refine WP.reg tabOk rfl ?_;refine um ?_;refine ub ?_;refine ua ?_;refine u_nil ?_;refine ⟨⟨i+1,(rdEt rdAll rdDsP sa).2,(rdEt rdAllR rdDsR sb).2,o27,((nk2+1)+1)⟩,⟨by omega,by omega,hqq.2,by omega,by omega,hb22_27,hb23_27,(fun t ht=>(hk27 t (by omega)).trans ((hk26 t (by omega)).trans ((hk25 t (by omega)).trans ((hk24 t (by omega)).trans ((hk23 t (by omega)).trans ((hk22 t (by omega)).trans ((hfr t (by omega)))))))))⟩,by simp only;omega,Le.al ?_⟩;simp only [List.forall_mem_cons];exact ⟨rfl,rfl,rfl,cnt (by omega),by simp⟩
    ·
     refine WP.exit ?_;refine hK15 _ ?_;refine wr ?_;refine u_step (o_pcall (s54nil) rfl ?_);refine u_step (o_fv rfl th30 rfl rfl th3 rfl ?_);refine ub ?_;refine ua ?_;refine u_nil ?_;refine WP.ret ?_;refine ret_ok rfl ?_ (by omega) (fun t ht=>(hfr t (by omega)));rfl
   ·
    refine ⟨by omega,by omega,SBq.refl _,hlen,hlen,hb9_11,hb11,(fun t ht=>(hk11 t (by omega)).trans ((hk9 t (by omega) (by omega)).trans ((hk8 t (by omega) (by omega)).trans ((hk7 t (by omega))))))⟩
   ·
    refine Le.al ?_;simp only [List.forall_mem_cons];exact ⟨rfl,rfl,rfl,rfl,by simp⟩
end Go.Proofs.YtpkcbdhjnnnkbaaGreat.Abs

set_option linter.unusedVariables false
set_option linter.unusedSimpArgs false
namespace Go.Proofs.YtpkcbdhjnnnkbaaGreat.Abs
open Go
open Go.ChangeShapes Go.WideShapes Go.ChangeAt Go.RowKit Go.WideElems
def Sof (w:World):Nat→Prop:=fun k=>k < w.heap.size
def RdC (w:World) (xs:List D) (cs:List Value):Prop:=cs.length=xs.length∧∀ (i:Nat) (x:D) (v:Value),xs[i]?=some x→cs[i]?=some v→Rd w (Sof w) x v
def D.cl:D→List D
 | .agg xs=>xs
 | x=>[x]
def D.ok1:D→Prop
 | .agg xs=>xs.all D.leaf=true
 | _=>True
theorem val_of {w:World} {x:D} {cs:List Value} (h:RdC w x.cl cs) (ho:x.ok1):∃ v:Value,v.cells.toList=cs∧Rd w (Sof w) x v:=by
 obtain ⟨h1,h2⟩:=h;by_cases hx:x.leaf=true
 ·have hc:x.cl=[x]:=by cases x <;> first | rfl | (simp [D.leaf] at hx)
  rw [hc] at h1 h2
  match cs,h1 with
  | [v],_=>
   have hr:=h2 0 x v rfl rfl;exact ⟨v,by rw [hr.leaf_cells hx],hr⟩
 ·cases x <;> simp [D.leaf] at hx
  rename_i xs;exact ⟨.agg cs.toArray,by simp [Value.cells],.agg xs cs ho h1 h2⟩
theorem rdC_one {w:World} {x:D} {v:Value} (h:Rd w (Sof w) x v):RdC w [x] [v]:=by
 refine ⟨rfl,fun i y u h1 h2=>?_⟩
 match i with
 | 0=>simp at h1 h2;subst h1;subst h2;exact h
 | i+1=>simp at h1
theorem list_of {α:Type} {Q:Nat→α→Prop}:∀ n,(∀ i,i < n→∃ a,Q i a)→∃ l:List α,l.length=n∧∀ i a,l[i]?=some a→Q i a
 | 0,_=>⟨[],rfl,by simp⟩
 | n+1,h=>by
  obtain ⟨l,h1,h2⟩:=list_of n fun i hi=>h i (by omega);obtain ⟨a,ha⟩:=h n (by omega);refine ⟨l++[a],by simp [h1],fun i b hb=>?_⟩;rcases Nat.lt_or_ge i l.length with hi | hi
  ·rw [List.getElem?_append_left hi] at hb;exact h2 i b hb
  ·rw [List.getElem?_append_right hi] at hb;have:i - l.length=0:=by
    rcases Nat.eq_zero_or_pos (i - l.length) with h' | h'
    ·exact h'
    ·rw [List.getElem?_eq_none (by simp;omega)] at hb;cases hb
   rw [this] at hb;simp at hb;subst hb;rw [show i=n by omega];exact ha
theorem mapM_some {α β:Type} {f:α→Option β}:∀ {l:List α} {r:List β},l.mapM f=some r→r.length=l.length∧∀ (i:Nat) (a:α),l[i]?=some a→f a=r[i]?
 | [],r,h=>by
  simp at h;subst h;exact ⟨rfl,by simp⟩
 | a :: l,r,h=>by
  rw [List.mapM_cons] at h;simp only [Option.bind_eq_bind,Option.bind_eq_some_iff,Option.pure_def,Option.some.injEq] at h;obtain ⟨b,hb,r',hr,rfl⟩:=h;obtain ⟨h1,h2⟩:=mapM_some hr;refine ⟨by simp [h1],fun i x hx=>?_⟩
  match i with
  | 0=>simp at hx;subst hx;simpa using hb
  | i+1=>simpa using h2 i x (by simpa using hx)
theorem cells_some {w:World} {b n:Nat} {a:Addr} {cs:List Value} (h:w.cells? b a n=some cs):cs.length=n∧∀ j,j < n→w.cell? (a.add j)=cs[j]?:=by
 unfold World.cells? at h;split at h
 ·obtain ⟨h1,h2⟩:=mapM_some h;rw [List.length_range] at h1;exact ⟨h1,fun j hj=>h2 j j (by rw [List.getElem?_range hj])⟩
 ·cases h
section
variable {H:Type} {enc:TypeId×Value→H} {P:Program} {w:World} {base fuel:Nat} {spare:Nat→Bool} {held:Bool} {t e:TypeId} {cs:List Value} {x:DataW H×List MemPlace}
def All2 {α:Type} (A:α→DataW H→Prop) (l:List α) (es:List (DataW H)):Prop:=l.length=es.length∧∀ (i:Nat) (a:α) (y:DataW H),l[i]?=some a→es[i]?=some y→A a y
def SlD {α:Type} (A:α→DataW H→Prop) (l:List α) (d:DataW H):Prop:=(d=.nil∧l=[])∨∃ es sp,d=.slice es sp∧All2 A l es
theorem rd_slice {α:Type} {z:Nat} (encA:α→D) (A:α→DataW H→Prop) (hu:P.underlying t=some (.slice e)) (hz:P.cellsOf e=z) (hz0:0 < z) (hzA:∀ a,(encA a).cl.length=z) (hok:∀ a,(encA a).ok1)
    (h:DataW.trod enc P w base spare held fuel t cs=some x)
    (he:∀ n cs x,n < fuel→DataW.trod enc P w base spare held n e cs=some x→∃ a,RdC w (encA a).cl cs∧A a x.1) :
    ∃ l:List α,RdC w [.sl z (l.map encA)] cs∧SlD A l x.1:=by
  rcases DataW.trod_slice hu h with ⟨rfl,rfl⟩ | ⟨a,len,cap,elems,rest,n,hf,rfl,rfl,hb,hlc,hcm,hlen,hel,_⟩
  · exact ⟨[],rdC_one (.emp _ _ _ (by omega)),.inl ⟨rfl,rfl⟩⟩
  · rw [hz] at hel;have key:∀ i,i < len→∃ p:α×Value,(∃ cs',w.cells? base (a.add (i * z)) z=some cs'∧p.2.cells.toList=cs')∧Rd w (Sof w) (encA p.1) p.2∧∀ y,elems[i]?=some y→A p.1 y.1:=by
      intro i hi;have h1:=hel i hi;rw [List.getElem?_eq_getElem (by omega)] at h1;obtain ⟨cs',h2,h3⟩:=Option.bind_eq_some_iff.1 h1;obtain ⟨b,h4,h5⟩:=he n cs' _ (by omega) h3;obtain ⟨v,h6,h7⟩:=val_of h4 (hok b);refine ⟨(b,v),⟨cs',h2,h6⟩,h7,fun y hy=>?_⟩;rw [List.getElem?_eq_getElem (by omega)] at hy;injection hy with hy;rw [← hy];exact h5
    obtain ⟨l,hl1,hl2⟩:=list_of len key;refine ⟨l.map (·.1),?_,.inr ⟨_,_,rfl,by simp [hl1,hlen],fun i b y hb' hy=>?_⟩⟩
    · refine rdC_one ?_;rcases Nat.eq_zero_or_pos len with h0 | h0
      · have:l=[]:=List.eq_nil_of_length_eq_zero (by omega);subst this;subst h0;exact .emp _ _ _ (by simpa [maxLen] using hcm)
      · have hS:Sof w a.block:=by
          obtain ⟨p,⟨cs',h1,_⟩,_⟩:=key 0 h0;obtain ⟨h2,h3⟩:=cells_some h1;have h4:=h3 0 hz0;rw [List.getElem?_eq_getElem (by omega)] at h4;have:=World.block_lt_of_cell? w _ h4
          rwa [add_block,add_block] at this
        have hlm:((l.map (·.1)).map encA).length=len:=by simp [hl1]
        rw [← hlm];refine .sl z _ a cap (l.map (·.2)) (by omega) (by simpa [maxLen] using hcm) hS (by simp [hl1]) (fun i y v hy hv=>?_) (fun i v hv=>?_) (fun i j v u hv hu'=>?_)
        · rw [List.getElem?_map,List.getElem?_map] at hy;rw [List.getElem?_map] at hv;cases hp:l[i]? with
          | none=>rw [hp] at hv;cases hv
          | some p=>
            rw [hp] at hy hv;simp at hy hv;subst hy;subst hv;exact (hl2 i p hp).2.1
        · rw [List.getElem?_map] at hv;obtain ⟨p,hp,rfl⟩:=Option.map_eq_some_iff.1 hv;obtain ⟨⟨cs',h1,h2⟩,_,_⟩:=hl2 i p hp;have:=(cells_some h1).1;rw [← h2] at this;simpa using this
        · rw [List.getElem?_map] at hv;obtain ⟨p,hp,rfl⟩:=Option.map_eq_some_iff.1 hv;obtain ⟨⟨cs',h1,h2⟩,_,_⟩:=hl2 i p hp;obtain ⟨h3,h4⟩:=cells_some h1;have hj:j < p.2.cells.size:=(Array.getElem?_eq_some_iff.1 hu').1;have hjz:j < z:=by
            rw [← h2] at h3;simp at h3;omega
          have h5:=h4 j hjz;rw [Addr_add_add] at h5;rw [h5,← h2];simpa using hu'
    · rw [List.getElem?_map] at hb' hy;obtain ⟨p,hp,rfl⟩:=Option.map_eq_some_iff.1 hb';obtain ⟨q,hq,rfl⟩:=Option.map_eq_some_iff.1 hy;exact (hl2 i p hp).2.2 q hq
theorem rd_int {k:IntKind} (hu:P.underlying t=some (.int k)) (h:DataW.trod enc P w base spare held fuel t cs=some x):∃ n,RdC w [.int k n] cs∧x.1=.lit (.int k n)∧(Lit.int k n).wf=true:=by
 obtain ⟨n,rfl,rfl,hw⟩:=DataW.trod_int hu h;exact ⟨n,rdC_one (.int _ _),rfl,hw⟩
theorem wf_u8 {n:Int} (h:(Lit.int .u8 n).wf=true):0≤n∧n≤255:=bounds_u8 h
end
theorem rdv_one {P:Program} {w W:World} {r:Reach} {base:Nat} {t:TypeId} {i:TI} {x:D} {v:Value} (h:Value.okWide P W r base t v) (hT:TOk P t i) (hk:i.k.agg=false) (hc:RdC w [x] v.cells.toList):Rd w (Sof w) x v:=by
 have hne:∀ cs,v≠.agg cs:=by
  rintro cs rfl;have hk2:=hT.k;unfold tkOf at hk2;unfold Value.okWide Cell.okWide Cell.ok at h;cases hu:P.underlying t with
  | none=>rw [hu] at h;simp at h
  | some d=>
   rw [hu] at h hk2;cases d <;> simp at h hk2
   all_goals first
    | (rw [← hk2] at hk;cases hk)
    | (rw [← hk2.2] at hk;cases hk)
 have hv:v.cells=#[v]:=by
  cases v <;> first | rfl | exact absurd rfl (hne _)
 rw [hv] at hc;exact hc.2 0 x v rfl rfl
section
variable {H:Type} {enc:TypeId×Value→H} {P:Program}
theorem post_of_below {f:Func} {s:ChangeSpec} {apart fresh handsOn again:Bool} {W W':World} {args:Array Value} {v:Value} {ds gs:List (DataW H)} {before pa pv:List MemPlace}
    (hW:DataW.Whole enc P f.params.toList s.vars apart W args.toList ds gs before)
    (hres:∀ (b:Nat) (sp:Nat→Bool) (hd:Bool),DataW.TrodAll enc P W' b sp hd f.resultTypes.toList (v.resultList f.resultTypes.size) (s.fn H (ds++gs)).results [])
    (hargs:∀ sp:Nat→Bool,(∀ p∈before,sp p.block=true)→DataW.TrodAll enc P W' 0 sp true f.params.toList args.toList (s.fn H (ds++gs)).args pa)
    (hvars:∀ sp:Nat→Bool,(∀ p∈before,sp p.block=true)→DataW.TrodVars enc P W' sp s.vars (s.fn H (ds++gs)).vars pv)
    (hps:before=pa++pv) (hb:Below W.heap.size W W')
    (hok:∀ (j:Nat) (t:TypeId) (r:Value),f.resultTypes[j]?=some t→(v.resultList f.resultTypes.size)[j]?=some r→Value.okWide P W' .any 0 t r) :
    s.post enc P f apart fresh handsOn again W args v W':=by
  have hlt:∀ p∈before,p.block < W.heap.size:=fun p hp=>hW.lt p hp;have hold:∀ p∈before,(fun b=>decide (b < W.heap.size)) p.block=true:=fun p hp=>by simpa using hlt p hp
  refine ⟨ds,gs,before,[],pa,pv,hW,hres _ _ _,hargs _ hold,hvars _ hold,World.keptBut_mono (fun p hp=>⟨hp,?_⟩) (hb.frame (·∈before)),fun _=>?_⟩
  · rw [hps,List.mem_append] at hp;exact Or.inr hp
  · obtain ⟨_,_,_,_,_,hz,hn⟩:=hW;refine ⟨hok,_,_,([]++pa)++pv,⟨[]++pa,pv,trodAll_append (hargs _ (fun _ _=>rfl)) (hres _ _ _),hvars _ (fun _ _=>rfl),rfl,?_,?_⟩,?_⟩
    · intro b off hp;have hin:MemPlace.cell b off∈before:=by rw [hps];simpa using hp
      rw [hb.frozen (hlt _ hin)];exact hz b off hin
    · intro ha;have:=hn ha;rw [hps] at this;simpa using this
    · intro p hp _;rw [hps];simpa using hp
theorem trodAll_stays (hl:laidOutB P=true) {W W':World} (hb:Below W.heap.size W W'):∀ {ts:List TypeId} {vs:List Value} {ds:List (DataW H)} {ps:List MemPlace} {sp:Nat→Bool},(ts.all fun t=>P.readableRec t && decide (t < P.types.size))=true→
    DataW.TrodAll enc P W 0 (fun _=>true) true ts vs ds ps→(∀ p∈ps,sp p.block=true)→(∀ p∈ps,p.block < W.heap.size)→DataW.TrodAll enc P W' 0 sp true ts vs ds ps
  | [],vs,ds,ps,sp,_,h,_,_=>by
    obtain ⟨rfl,rfl,rfl⟩:=trodAll_nil h;rfl
  | t :: ts,vs,ds,ps,sp,ht,h,hs,hlt=>by
    obtain ⟨v,vs',d,ds',p,q,rfl,rfl,rfl,h1,h2⟩:=trodAll_cons h;simp only [List.all_cons,Bool.and_eq_true,decide_eq_true_eq] at ht;exact trodAll_cons_mk (Trod_stays hl ht.1.1 ht.1.2 h1 (fun x hx=>hb.same (hlt x (by simp [hx]))) fun x hx=>hs x (by simp [hx])) (trodAll_stays hl hb ht.2 h2 (fun x hx=>hs x (by simp [hx])) fun x hx=>hlt x (by simp [hx]))
theorem calls_of_spec {f : FuncId} {fn : Func} {W : World} {vs : List Value} {ds : List D} (hfn : P.funcs[f]? = some fn) (hbody : fn.body.isSome = true) (hname : (fn.name == "runtime.NumGoroutine") = false) (h : PSpec P f (ds.map .d) (.d (.bool true))) (hr : vs.length = ds.length ∧ ∀ (i : Nat) (x : D) (v : Value), ds[i]? = some x → vs[i]? = some v → Rd W (Sof W) x v) :
    Calls P f vs.toArray W fun e W'=>e=.returned (.bool true)∧Below W.heap.size W W':=by
  have hsto:Sto W (Sof W) (fun _=>undef) (fun _=>none) 0:=⟨fun k hk=>hk,by simp,by simp,by simp,by simp,by simp,by simp⟩;have hd:=h (fun _=>none) 0 W (Sof W) (fun _=>undef) vs hsto (by simp [hr.1]) (fun i c v hc hv=>by
    rw [List.getElem?_map] at hc;obtain ⟨x,hx,rfl⟩:=Option.map_eq_some_iff.1 hc;exact .d _ _ (hr.2 i x v hx hv)) (lts_of fun i c hc=>by
      rw [List.getElem?_map] at hc;obtain ⟨x,hx,rfl⟩:=Option.map_eq_some_iff.1 hc;trivial)
  obtain ⟨b,hb⟩:=Option.isSome_iff_exists.1 hbody;have hcf:(callFunc f vs.toArray).run P W=.ok (.enter f vs.toArray) W:=by
    simp only [beq_eq_false_iff_ne,ne_eq] at hname;simp [callFunc,hfn,hb,hname]
  unfold Does at hd;rw [hcf] at hd;refine hd.mono ?_;rintro e W' ⟨v,rfl,r,o',nk',S',γ',⟨rfl,rfl,rfl⟩,hs,ht,hsr,hl⟩;refine ⟨?_,ht.os,ht.tape,ht.output,ht.size,fun k hk=>ht.kept k hk ?_⟩
  · cases hsr with
    | d _ _ hrd=>cases hrd;rfl
  · rintro ⟨t,y,hy,_⟩;cases hy
end
end Go.Proofs.YtpkcbdhjnnnkbaaGreat.Abs

set_option linter.unusedVariables false
set_option linter.unusedSimpArgs false
set_option maxRecDepth 10000
namespace Go.Proofs.YtpkcbdhjnnnkbaaGreat.Abs
open Go
section
variable {H:Type} {enc:TypeId×Value→H} {w:World} {base fuel:Nat} {spare:Nat→Bool} {held:Bool} {cs:List Value} {x:DataW H×List MemPlace}
theorem cells_of {P:Program} {t:TypeId} {i:TI} (h:TOk P t i):P.cellsOf t=i.sz:=by
 have:=h.s;unfold Program.cellsOf;cases hq:P.info? t with
 | none=>rw [hq] at this;cases this
 | some q=>rw [hq] at this;simp at this;simp [this.1]
def szDs:List Dlt→Nat
 | []=>0
 | d :: r=>szV d.value+szN d.path+szDs r
def I64 (n:Int):Prop:=-9223372036854775808≤n∧n≤9223372036854775807
structure AEtr (e:Etr) (d:DataW H):Prop where
 rt:I64 e.term
 rk:I64 e.kind
 rs:I64 e.session
 rn:I64 e.number
 ri:rngV e.id
 rd:rngV e.doc
 rl:∀ x∈e.deltas,rngV x.value
 sz:szV e.id+szV e.doc+szDs e.deltas+e.coll.length+e.to.length+1≤Rows.uptoBulk d
structure AFlt (f:Flt) (d:DataW H):Prop where
 rk:I64 f.kinds
 sz:f.coll.length+szN f.path≤Rows.uptoBulk d
end
end Go.Proofs.YtpkcbdhjnnnkbaaGreat.Abs

set_option linter.unusedVariables false
namespace Go.Proofs.YtpkcbdhjnnnkbaaGreat.Abs
open Go
theorem open_bytes {H:Type} {enc:TypeId×Value→H} {w:World} {base fuel:Nat} {spare:Nat→Bool} {held:Bool} {cs:List Value} {x:DataW H×List MemPlace} (h:DataW.trod enc Tryz.prog w base spare held fuel 52 cs=some x):∃ b:List UInt8,RdC w [.sl 1 (b.map encB)] cs∧SlD (fun _ _=>True) b x.1:=
 rd_slice (z:=1) encB (fun _ _=>True) ((tabOk 52 _ th52).slice rfl) (cells_of (tabOk 5 _ th5)) (by decide) (fun _=>rfl) (fun _=>trivial) h fun n cs x _ h=>by
  obtain ⟨k,k1,k2,k3⟩:=rd_int ((tabOk 5 _ th5).int rfl) h;have hk:=wf_u8 k3;refine ⟨UInt8.ofNat k.toNat,?_,trivial⟩;have he:encB (UInt8.ofNat k.toNat)=.int .u8 k:=by
   have:(UInt8.ofNat k.toNat).toNat=k.toNat:=by simp [UInt8.toNat_ofNat'];omega
   simp only [encB,this];congr 1;omega
  rw [he];exact k1
theorem open_intL {H:Type} {enc:TypeId×Value→H} {w:World} {base fuel:Nat} {spare:Nat→Bool} {held:Bool} {cs:List Value} {x:DataW H×List MemPlace} (h:DataW.trod enc Tryz.prog w base spare held fuel 3 cs=some x):∃ n:Int,RdC w [.int .i64 n] cs∧True:=by
 obtain ⟨n,h1,_,_⟩:=rd_int ((tabOk 3 _ th3).int rfl) h;exact ⟨n,h1,trivial⟩
end Go.Proofs.YtpkcbdhjnnnkbaaGreat.Abs



set_option linter.unusedVariables false
set_option linter.unusedSimpArgs false
set_option maxRecDepth 10000
namespace Go.Proofs.YtpkcbdhjnnnkbaaGreat.lawEntryReads
open Go Abs
open Go.ChangeShapes Go.WideShapes Go.ChangeAt Go.RowKit
theorem own:ownKnob Tryz.prog.godebug=none:=by kernel_rfl
theorem laid:laidOutB Tryz.prog=true:=by kernel_rfl
theorem contract (H:Type) (enc:TypeId×Value→H) (W:World) (base:Nat) (args:Array Value) (ds gs:List (DataW H)) (before:List MemPlace)
    (hval:∀ (j:Nat) t v,Tryz.f12.params[j]?=some t→args[j]?=some v→Value.okWide Tryz.prog W .any base t v)
    (hW:DataW.Whole enc Tryz.prog Tryz.f12.params.toList Rows.entryReadsSpec.vars false W args.toList ds gs before) (hk:Rows.uptoSmall H (ds++gs)=true) :
    Calls Tryz.prog 12 args W fun e W'=>∃ v,e=.returned v∧Rows.entryReadsSpec.post enc Tryz.prog Tryz.f12 false true false false W args v W':=by
  have hW':=hW;obtain ⟨p,q,hA0,hV,rfl,hfz,hnd⟩:=hW;have hA:DataW.TrodAll enc Tryz.prog W 0 (fun _=>true) true Tryz.f12.params.toList args.toList ds p:=hA0;rw [Tryz.params12] at hA hval;obtain ⟨v0,vs0,d0,ds0,p0,q0,hargs,rfl,rfl,h0,r0⟩:=trodAll_cons hA;obtain ⟨v1,vs1,d1,ds1,p1,q1,rfl,rfl,rfl,h1,r1⟩:=trodAll_cons r0;obtain ⟨rfl,rfl,rfl⟩:=trodAll_nil r1;obtain rfl:args=#[v0,v1]:=by cases args;simp_all
  obtain ⟨rfl,rfl⟩:=trodVars_none hV;clear hA0;simp only [List.append_nil] at hW' hk;have hb:Rows.uptoBulkAll [d0,d1]≤1048576:=of_decide_eq_true hk;simp only [Rows.uptoBulkAll] at hb;obtain ⟨n0,t0⟩:=h0;obtain ⟨b,c0,a0⟩:=open_bytes t0;have x0:=rdv_one (hval 0 52 v0 rfl rfl) (tabOk _ _ th52) rfl c0;obtain ⟨n1,t1⟩:=h1;obtain ⟨x,c1,a1⟩:=open_intL t1;have x1:=rdv_one (hval 1 3 v1 rfl rfl) (tabOk _ _ th3) rfl c1;refine (calls_of_spec (vs:=[v0,v1]) (ds:=[.sl 1 (b.map encB),.int .i64 x]) Tryz.func12 (by kernel_rfl) (by kernel_rfl) (s12 b x) ⟨rfl,fun i x v hx hv=>?_⟩).mono fun e W' ⟨he,hg⟩=>?_
  · match i,hx,hv with
    | 0,hx,hv=>simp at hx hv;subst hx;subst hv;exact x0
    | 1,hx,hv=>simp at hx hv;subst hx;subst hv;exact x1
    | i+2,hx,hv=>simp at hx
  subst he;exact ⟨_,rfl,post_of_below (pa:=p0++(p1++[])) (pv:=[]) hW' (fun _ _ _=>trodAll_cons_mk (shut_bool Tryz.underlying4 _) trodAll_mk0) (fun sp hs=>trodAll_stays laid hg (by kernel_rfl) hA (fun x hx=>hs x (by simpa using hx)) (fun x hx=>hW'.lt x (by simpa using hx))) (fun _ _=>rfl) (by simp) hg (ok_one (by kernel_rfl) rfl (okWide_bool_mk Tryz.underlying4 _))⟩
set_option maxRecDepth 100000 in
theorem lifted (os:Os) (started:os.Started) (H:Type) (enc:TypeId×Value→H) (F:Stop.Interp) :
    ReturnsInHanded {} Tryz.checked os 12 .any ((Rows.OpenSpec.upto Rows.entryReadsSpec).pre6 enc Tryz.prog Tryz.f12 Rows.entryReadsUptoRow.domain false) (((Rows.OpenSpec.upto Rows.entryReadsSpec).at F).post enc Tryz.prog Tryz.f12 false true false false):=by
  refine returnsInHanded_of_cond (C:=Tryz.checked) (s:=Rows.OpenSpec.upto Rows.entryReadsSpec) (k:=Rows.uptoSmall) rfl own started (by kernel_rfl) Tryz.func12
    (OpenSpec.witness (enc:=enc) (C:=Tryz.checked) (s:=Rows.OpenSpec.upto Rows.entryReadsSpec) (k:=Rows.uptoSmall) rfl false ⟨#[],#[.slice none 0 0,.int .i64 0],[]⟩ 8 (by kernel_rfl) (by kernel_rfl) (by kernel_rfl)
      (x:=([.nil,.lit (.int .i64 0)],[],[])) (by kernel_rfl) rfl (by kernel_rfl)) ?_
  intro W base args ds gs before hval hW _ hk _;exact contract H enc W base args ds gs before hval hW hk
theorem j0:(fun (P:Program) (f:FuncId) (fn:Func) (s:ChangeSpec) (c:OpenClaim)=>(c.wf (OpenSpec.ofChange s):Bool)) Tryz.checked.prog 12 Tryz.f12 (Rows.OpenSpec.upto Rows.entryReadsSpec).bare Rows.entryReadsUptoRow=true:=by kernel_rfl
theorem j1:(fun (P:Program) (f:FuncId) (fn:Func) (s:ChangeSpec) (c:OpenClaim)=>(laidOutB P:Bool)) Tryz.checked.prog 12 Tryz.f12 (Rows.OpenSpec.upto Rows.entryReadsSpec).bare Rows.entryReadsUptoRow=true:=by kernel_rfl
theorem j2:(fun (P:Program) (f:FuncId) (fn:Func) (s:ChangeSpec) (c:OpenClaim)=>(mapsRowed P:Bool)) Tryz.checked.prog 12 Tryz.f12 (Rows.OpenSpec.upto Rows.entryReadsSpec).bare Rows.entryReadsUptoRow=true:=by kernel_rfl
theorem j3:(fun (P:Program) (f:FuncId) (fn:Func) (s:ChangeSpec) (c:OpenClaim)=>(fn.params.all (P.readableRec ·):Bool)) Tryz.checked.prog 12 Tryz.f12 (Rows.OpenSpec.upto Rows.entryReadsSpec).bare Rows.entryReadsUptoRow=true:=by kernel_rfl
theorem j4:(fun (P:Program) (f:FuncId) (fn:Func) (s:ChangeSpec) (c:OpenClaim)=>(namedTie P c.named s.vars:Bool)) Tryz.checked.prog 12 Tryz.f12 (Rows.OpenSpec.upto Rows.entryReadsSpec).bare Rows.entryReadsUptoRow=true:=by kernel_rfl
theorem j5:(fun (P:Program) (f:FuncId) (fn:Func) (s:ChangeSpec) (c:OpenClaim)=>((c.stops == []):Bool)) Tryz.checked.prog 12 Tryz.f12 (Rows.OpenSpec.upto Rows.entryReadsSpec).bare Rows.entryReadsUptoRow=true:=by kernel_rfl
theorem j6:(fun (P:Program) (f:FuncId) (fn:Func) (s:ChangeSpec) (c:OpenClaim)=>((P.stops == []):Bool)) Tryz.checked.prog 12 Tryz.f12 (Rows.OpenSpec.upto Rows.entryReadsSpec).bare Rows.entryReadsUptoRow=true:=by kernel_rfl
theorem j7:(fun (P:Program) (f:FuncId) (fn:Func) (s:ChangeSpec) (c:OpenClaim)=>((c.knobs == []):Bool)) Tryz.checked.prog 12 Tryz.f12 (Rows.OpenSpec.upto Rows.entryReadsSpec).bare Rows.entryReadsUptoRow=true:=by kernel_rfl
theorem j8:(fun (P:Program) (f:FuncId) (fn:Func) (s:ChangeSpec) (c:OpenClaim)=>((P.stopKnobs == []):Bool)) Tryz.checked.prog 12 Tryz.f12 (Rows.OpenSpec.upto Rows.entryReadsSpec).bare Rows.entryReadsUptoRow=true:=by kernel_rfl
theorem j9:(fun (P:Program) (f:FuncId) (fn:Func) (s:ChangeSpec) (c:OpenClaim)=>((c.inPlace == P.inPlace f):Bool)) Tryz.checked.prog 12 Tryz.f12 (Rows.OpenSpec.upto Rows.entryReadsSpec).bare Rows.entryReadsUptoRow=true:=by kernel_rfl
theorem j10:(fun (P:Program) (f:FuncId) (fn:Func) (s:ChangeSpec) (c:OpenClaim)=>((c.unfollowed == P.unfollowed f):Bool)) Tryz.checked.prog 12 Tryz.f12 (Rows.OpenSpec.upto Rows.entryReadsSpec).bare Rows.entryReadsUptoRow=true:=by kernel_rfl
theorem j11:(fun (P:Program) (f:FuncId) (fn:Func) (s:ChangeSpec) (c:OpenClaim)=>((c.recurses == P.recurses f):Bool)) Tryz.checked.prog 12 Tryz.f12 (Rows.OpenSpec.upto Rows.entryReadsSpec).bare Rows.entryReadsUptoRow=true:=by kernel_rfl
theorem j12:(fun (P:Program) (f:FuncId) (fn:Func) (s:ChangeSpec) (c:OpenClaim)=>((c.named == P.varsNamed f):Bool)) Tryz.checked.prog 12 Tryz.f12 (Rows.OpenSpec.upto Rows.entryReadsSpec).bare Rows.entryReadsUptoRow=true:=by kernel_rfl
theorem j13:(fun (P:Program) (f:FuncId) (fn:Func) (s:ChangeSpec) (c:OpenClaim)=>((c.maps == (fn.params.toList++s.plain.varTypes P).any (P.mapsRec ·)):Bool)) Tryz.checked.prog 12 Tryz.f12 (Rows.OpenSpec.upto Rows.entryReadsSpec).bare Rows.entryReadsUptoRow=true:=by kernel_rfl
theorem j14:(fun (P:Program) (f:FuncId) (fn:Func) (s:ChangeSpec) (c:OpenClaim)=>((c.ifaces == (fn.params.toList++s.plain.varTypes P).any (P.ifacesRec ·)):Bool)) Tryz.checked.prog 12 Tryz.f12 (Rows.OpenSpec.upto Rows.entryReadsSpec).bare Rows.entryReadsUptoRow=true:=by kernel_rfl
theorem j15:(fun (P:Program) (f:FuncId) (fn:Func) (s:ChangeSpec) (c:OpenClaim)=>((c.mapsOut == P.mapsAmong fn.resultTypes.toList):Bool)) Tryz.checked.prog 12 Tryz.f12 (Rows.OpenSpec.upto Rows.entryReadsSpec).bare Rows.entryReadsUptoRow=true:=by kernel_rfl
theorem j16:(fun (P:Program) (f:FuncId) (fn:Func) (s:ChangeSpec) (c:OpenClaim)=>((c.loops == (fn.params.toList++s.plain.varTypes P).any (P.loopsFrom ·)):Bool)) Tryz.checked.prog 12 Tryz.f12 (Rows.OpenSpec.upto Rows.entryReadsSpec).bare Rows.entryReadsUptoRow=true:=by kernel_rfl
theorem j17:(fun (P:Program) (f:FuncId) (fn:Func) (s:ChangeSpec) (c:OpenClaim)=>((c.wideKeys == (fn.params.toList++s.plain.varTypes P++fn.resultTypes.toList).any (P.wideKeysFrom ·)):Bool)) Tryz.checked.prog 12 Tryz.f12 (Rows.OpenSpec.upto Rows.entryReadsSpec).bare Rows.entryReadsUptoRow=true:=by kernel_rfl
theorem j18:(fun (P:Program) (f:FuncId) (fn:Func) (s:ChangeSpec) (c:OpenClaim)=>(s.vars.all (P.varReadable ·):Bool)) Tryz.checked.prog 12 Tryz.f12 (Rows.OpenSpec.upto Rows.entryReadsSpec).bare Rows.entryReadsUptoRow=true:=by kernel_rfl
theorem j19:(fun (P:Program) (f:FuncId) (fn:Func) (s:ChangeSpec) (c:OpenClaim)=>(fn.resultTypes.all (fun t=>P.readableRec t && decide (t < P.types.size)):Bool)) Tryz.checked.prog 12 Tryz.f12 (Rows.OpenSpec.upto Rows.entryReadsSpec).bare Rows.entryReadsUptoRow=true:=by kernel_rfl
theorem j20:(fun (P:Program) (f:FuncId) (fn:Func) (s:ChangeSpec) (c:OpenClaim)=>((c.ifacesOut == fn.resultTypes.toList.any (P.ifacesRec ·)):Bool)) Tryz.checked.prog 12 Tryz.f12 (Rows.OpenSpec.upto Rows.entryReadsSpec).bare Rows.entryReadsUptoRow=true:=by kernel_rfl
theorem j21:(fun (P:Program) (f:FuncId) (fn:Func) (s:ChangeSpec) (c:OpenClaim)=>((c.loopsOut == fn.resultTypes.toList.any (P.loopsFrom ·)):Bool)) Tryz.checked.prog 12 Tryz.f12 (Rows.OpenSpec.upto Rows.entryReadsSpec).bare Rows.entryReadsUptoRow=true:=by kernel_rfl
theorem j22:(fun (P:Program) (f:FuncId) (fn:Func) (s:ChangeSpec) (c:OpenClaim)=>((c.plainKeys == P.plainKeys):Bool)) Tryz.checked.prog 12 Tryz.f12 (Rows.OpenSpec.upto Rows.entryReadsSpec).bare Rows.entryReadsUptoRow=true:=by kernel_rfl
theorem j23:(fun (P:Program) (f:FuncId) (fn:Func) (s:ChangeSpec) (c:OpenClaim)=>(c.shortTexts.isNone:Bool)) Tryz.checked.prog 12 Tryz.f12 (Rows.OpenSpec.upto Rows.entryReadsSpec).bare Rows.entryReadsUptoRow=true:=by kernel_rfl
theorem j24:(fun (P:Program) (f:FuncId) (fn:Func) (s:ChangeSpec) (c:OpenClaim)=>(P.stopsHeard:Bool)) Tryz.checked.prog 12 Tryz.f12 (Rows.OpenSpec.upto Rows.entryReadsSpec).bare Rows.entryReadsUptoRow=true:=by kernel_rfl
theorem j25:(fun (P:Program) (f:FuncId) (fn:Func) (s:ChangeSpec) (c:OpenClaim)=>(P.mayEnter:Bool)) Tryz.checked.prog 12 Tryz.f12 (Rows.OpenSpec.upto Rows.entryReadsSpec).bare Rows.entryReadsUptoRow=true:=by kernel_rfl
theorem j26:(fun (P:Program) (f:FuncId) (fn:Func) (s:ChangeSpec) (c:OpenClaim)=>((c.lifted == P.liftsFinal):Bool)) Tryz.checked.prog 12 Tryz.f12 (Rows.OpenSpec.upto Rows.entryReadsSpec).bare Rows.entryReadsUptoRow=true:=by kernel_rfl
theorem j27:(fun (P:Program) (f:FuncId) (fn:Func) (s:ChangeSpec) (c:OpenClaim)=>((P.make == some c.make):Bool)) Tryz.checked.prog 12 Tryz.f12 (Rows.OpenSpec.upto Rows.entryReadsSpec).bare Rows.entryReadsUptoRow=true:=by kernel_rfl
theorem j28:(fun (P:Program) (f:FuncId) (fn:Func) (s:ChangeSpec) (c:OpenClaim)=>((c.kinds == (if c.domain.isEmpty then [] else fn.params.toList.map fun t=>match P.underlying t with | some (.int k)=>some k | _=>none)):Bool)) Tryz.checked.prog 12 Tryz.f12 (Rows.OpenSpec.upto Rows.entryReadsSpec).bare Rows.entryReadsUptoRow=true:=by kernel_rfl
theorem j29:(fun (P:Program) (f:FuncId) (fn:Func) (s:ChangeSpec) (c:OpenClaim)=>((c.pinned == c.pinnedBy):Bool)) Tryz.checked.prog 12 Tryz.f12 (Rows.OpenSpec.upto Rows.entryReadsSpec).bare Rows.entryReadsUptoRow=true:=by kernel_rfl
theorem j30:(fun (P:Program) (f:FuncId) (fn:Func) (s:ChangeSpec) (c:OpenClaim)=>((c.veiled == (fn.params.toList++s.plain.varTypes P++fn.resultTypes.toList).any (P.veiledRec ·)):Bool)) Tryz.checked.prog 12 Tryz.f12 (Rows.OpenSpec.upto Rows.entryReadsSpec).bare Rows.entryReadsUptoRow=true:=by kernel_rfl
theorem j31:(fun (P:Program) (f:FuncId) (fn:Func) (s:ChangeSpec) (c:OpenClaim)=>(c.veiledFits P fn.params.toList (fn.params.toList++s.plain.varTypes P++fn.resultTypes.toList):Bool)) Tryz.checked.prog 12 Tryz.f12 (Rows.OpenSpec.upto Rows.entryReadsSpec).bare Rows.entryReadsUptoRow=true:=by kernel_rfl
theorem jand (a b:Bool) (h1:a=true) (h2:b=true):(a && b)=true:=by rw [h1,h2];rfl
theorem closed:joinedFacts Tryz.checked.prog 12 Tryz.f12 (Rows.OpenSpec.upto Rows.entryReadsSpec).bare Rows.entryReadsUptoRow=true:=jand _ _ (jand _ _ (jand _ _ (jand _ _ (jand _ _ (jand _ _ (jand _ _ (jand _ _ (jand _ _ (jand _ _ (jand _ _ (jand _ _ (jand _ _ (jand _ _ (jand _ _ (jand _ _ (jand _ _ (jand _ _ (jand _ _ (jand _ _ (jand _ _ (jand _ _ (jand _ _ (jand _ _ (jand _ _ (jand _ _ (jand _ _ (jand _ _ (jand _ _ (jand _ _ (jand _ _ j0 j1) j2) j3) j4) j5) j6) j7) j8) j9) j10) j11) j12) j13) j14) j15) j16) j17) j18) j19) j20) j21) j22) j23) j24) j25) j26) j27) j28) j29) j30) j31
theorem over:Rows.entryReadsUptoRow.holds Tryz.pinned (Rows.OpenSpec.upto Rows.entryReadsSpec):=
 OpenClaim.holds_of_cond 12 Tryz.f12 rfl rfl rfl rfl rfl rfl rfl ⟨rfl,rfl,rfl,rfl,rfl⟩ rfl rfl rfl rfl rfl (by kernel_rfl) Tryz.func12 closed
  (of_decide_eq_true (by kernel_rfl)) (by unfold Func.isWrapper;first | (rw [if_pos (by decide +kernel)];kernel_rfl) | (rw [if_neg (by decide +kernel)];exact ⟨rfl,rfl⟩))
  (fun os started H enc _ F=>lifted os started H enc F)
end Go.Proofs.YtpkcbdhjnnnkbaaGreat.lawEntryReads
namespace Go.Proofs.YtpkcbdhjnnnkbaaGreat
theorem entryReads_upto_holds:Rows.EntryReadsUptoSaid:=lawEntryReads.over
end Go.Proofs.YtpkcbdhjnnnkbaaGreat
