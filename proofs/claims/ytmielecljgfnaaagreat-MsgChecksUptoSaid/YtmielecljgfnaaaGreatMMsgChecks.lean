/- MsgChecks: called with any message that holds at most 1048576 values and letters, the law answers true, and it reads afterwards as it read before. -/
import Derived.Test.YtmielecljgfnaaaGreatMMsgChecks5
import Derived.Test.YtmielecljgfnaaaGreatMMsgChecks3
import Derived.Test.YtmielecljgfnaaaGreatMMsgChecks2
import Derived.Test.YtmielecljgfnaaaGreatRows
import Derived.WalkKit
import Derived.ProofKit
import Derived.OpenShut
import Derived.JoinedCond
import Derived.ChangeArms
import Derived.Carry
import Derived.Test.YtmielecljgfnaaaGreatMMsgChecks4
set_option linter.unusedVariables false
set_option linter.unusedSimpArgs false
set_option maxRecDepth 10000
namespace Go.Proofs.YtmielecljgfnaaaGreat.Abs
open Go
/-- What an entry's copy wants. -/
structure OkD (e : Etr) : Prop where
  hi : szV e.id ≤ 1099511627776
  hd : szV e.doc ≤ 1099511627776
  hl : e.deltas.length ≤ 1099511627776
  hs : ∀ d ∈ e.deltas, szV d.value ≤ 1099511627776 ∧ d.path.length ≤ 1099511627776
theorem map_snocE {l : List Etr} {i : Nat} (h : i < l.length) : (l.take (i + 1)).map encE = (l.take i).map encE ++ [encE (l[i]'h)] := by rw [List.take_succ_eq_append_getElem h, List.map_append]; rfl

theorem fn67 : FnOk Tryz.prog 67 8 [2] (bodyOf Tryz.f67) := ⟨Tryz.f67, Tryz.func67, by kernel_rfl, by decide, by kernel_rfl, by kernel_rfl⟩
theorem s67 (b : List UInt8) (hsz : b.length ≤ 1099511627776) : DSpec Tryz.prog 67 [.d (.sl 1 (b.map encU))] 5 1 (b.map encU) := by
 refine DSpec.of fn67 (by simp) fun o nk => ?_
 refine wr ?_
 refine ua ?_
 refine u_nil ?_
 refine WP.seq fun K2 hK2 => ?_
 refine wr ?_
 refine um ?_
 refine u_step (o_eqnil rfl rfl th27 rfl fun nb4 hnb4 => ?_)
 refine u_nil ?_
 refine wc (fun hc5 => ?_) (fun hc5 => ?_) <;> try simp only [Q0, Q1, Q2, Q3, Q4, Q5, Q6, Q7, Q8, ge_iff_le, gt_iff_lt] at hc5
 ·
  refine wr ?_
  refine ua ?_
  refine u_nil ?_
  refine WP.ret ?_
  refine dnil_ok rfl ?_ (by omega) (fun _ _ => rfl)
  exact hnb4 hc5
 ·
  refine WP.skip ?_
  refine hK2 _ ?_
  refine wr ?_
  refine u_step (g_bs0 th27 rfl th5 rfl rfl (by decide) fun o8 hb8 hk8 => ?_)
  refine um ?_
  refine u_step (g_ap rfl rfl th27 rfl th5 rfl rfl (by decide) rfl hb8 (by simp only [List.length_nil, List.length_map]; omega) (by simp only [List.length_nil, List.length_map]; omega) fun o9 hb9 hk9 => ?_)
  refine u_step (o_assignV (v := .row _) rfl ?_)
  refine u_nil ?_
  refine WP.ret ?_
  refine drow_ok rfl (by omega) (by omega) ?_ (fun t ht => (hk9 t (by omega) (by omega)).trans ((hk8 t (by omega))))
  simpa using hb9

theorem fn65 : FnOk Tryz.prog 65 22 [4] (bodyOf Tryz.f65) := ⟨Tryz.f65, Tryz.func65, by kernel_rfl, by decide, by kernel_rfl, by kernel_rfl⟩
theorem s65 (l : List Etr) (hl : l.length ≤ 1048576) (hs : ∀ e ∈ l, OkD e) : DSpec Tryz.prog 65 [.d (.sl 17 (l.map encE)), .clo 66 [] []] 72 17 (l.map encE) := by
 have hln : (l.map encE).length = l.length := List.length_map _
 refine DSpec.of fn65 (by simp) fun o nk => ?_
 refine wr ?_
 refine ua ?_
 refine u_nil ?_
 refine wr ?_
 refine ua ?_
 refine u_nil ?_
 refine WP.seq fun K3 hK3 => ?_
 refine wr ?_
 refine um ?_
 refine un th26 ?_
 refine um ?_
 refine u_nil ?_
 refine WP.block ?_
 refine WP.loopL (ι := Nat × SV × Option Nat × (Nat → Option AO) × Nat) (fun ⟨i, c, q, o2, nk2⟩ => ⟨al [(1, .clo 66 [] []), (5, c), (8, .d (.sl 17 (l.map encE))), (9, .d (.int .i64 (l.map encE).length)), (10, .d (.int .i64 i))], o2, nk2⟩) (fun ⟨i, c, q, o2, nk2⟩ => i ≤ l.length ∧ nk ≤ nk2 ∧ dstOf o2 72 17 c = some (q, (l.take i).map encE) ∧ (∀ t, q = some t → nk ≤ t ∧ t < nk2) ∧ ∀ t, t < nk → o2 t = o t) (fun ⟨i, c, q, o2, nk2⟩ => l.length - i) (fun ⟨i, c, q, o2, nk2⟩ hA => ?_) ⟨0, .d .nil, none, o, nk⟩ ?_ ?_
 ·
  obtain ⟨hle, hnk, hd, hq, hfr⟩ := hA
  refine wr ?_
  refine ub ?_
  refine u_nil ?_
  refine WP.seq fun K6 hK6 => ?_
  refine wc (fun hc7 => ?_) (fun hc7 => ?_) <;> try simp only [Q0, Q1, Q2, Q3, Q4, Q5, Q6, Q7, Q8, ge_iff_le, gt_iff_lt] at hc7
  ·
   have hil : i < l.length := by have := hc7; (try simp at this); omega
   refine WP.skip ?_
   refine hK6 _ ?_
   refine WP.seq fun K8 hK8 => ?_
   refine WP.block ?_
   refine wr ?_
   first | refine u_step (o_ia_map rfl rfl th26 rfl th72 rfl (by omega) ?_) | refine u_step (o_ia_vs rfl rfl th26 rfl th72 rfl (by omega) ?_)
   refine uL th72 ?_
   refine u_step (g_alloc th72 rfl fun o10 hb10 hk10 => ?_)
   have hd_10 := dst_keep hd fun t e => hk10 t (by have := hq t e; omega)
   refine u_step0 (g_sta rfl rfl th72 rfl hb10 (by simp [valCells]) fun o11 hb11 hk11 => ?_)
   have hd_11 := dst_keep hd_10 fun t e => hk11 t (by have := hq t e; omega)
   refine u_nil ?_
   refine WP.reg tabOk rfl ?_
   refine u_step (o_moveV (v := c) rfl ?_)
   refine u_step (o_moveV (v := .clo _ _ _) rfl ?_)
   refine ug th72 hb11 ?_
   refine u_step (o_pclo rfl (s66 l[i] (hs _ (List.getElem_mem _)).hi (hs _ (List.getElem_mem _)).hd (hs _ (List.getElem_mem _)).hl (hs _ (List.getElem_mem _)).hs) rfl ?_)
   first | refine u_step (o_bs rfl th26 rfl th72 rfl rfl (by decide) rfl (by decide) (by decide) ?_) | refine u_step (o_bs1 rfl (by simp only [encV_width]) th26 rfl th72 rfl rfl (by decide) (by decide) ?_)
   refine u_step (g_apD2 rfl th26 rfl th72 rfl rfl (by decide) rfl hd_11 (by simp only [List.length_map, List.length_take, List.length_cons, List.length_nil]; omega) (by simp only [List.length_map, List.length_take, List.length_cons, List.length_nil]; omega) fun o12 hb12 hk12 => ?_)
   have hb11_12 := (hk12 _ (by omega) (fun e => by have := hq _ e.symm; omega)).trans hb11
   refine u_step (o_assignV (v := .row _) rfl ?_)
   refine u_nil ?_
   refine hK8 _ ?_
   refine WP.reg tabOk rfl ?_
   refine ub ?_
   refine um ?_
   refine u_nil ?_
   -- back
   refine ⟨⟨i + 1, .row _, some _, o12, ((nk2 + 1) + 1)⟩, ⟨by omega, by omega, (map_snocE (l := l) (i := i) (by omega)) ▸ dst_row hb12, fun t e => by injection e with e; omega, (fun t ht => (hk12 t (by omega) (fun e => by have := hq _ e.symm; omega)).trans ((hk11 t (by omega)).trans ((hk10 t (by omega)).trans ((hfr t (by omega))))))⟩, by simp only; omega, ?_⟩
   refine Le.al ?_
   simp only [List.forall_mem_cons]
   exact ⟨rfl, rfl, rfl, rfl, cnt (by omega), by simp⟩
  ·
   refine WP.exit ?_
   refine hK3 _ ?_
   refine wr ?_
   refine u_step (o_moveV (v := c) rfl ?_)
   refine u_step (o_assignV (v := c) rfl ?_)
   refine u_nil ?_
   refine WP.ret ?_
   refine ddst_ok hd ?_ (fun t e => by have := hq t e; omega) (by omega) (fun t ht => (hfr t (by omega)))
   rw [List.take_of_length_le (by omega)]
 ·
  refine ⟨by omega, by omega, rfl, by simp, (fun _ _ => rfl)⟩
 ·
  refine Le.al ?_
  simp only [List.forall_mem_cons]
  exact ⟨rfl, rfl, rfl, rfl, rfl, by simp⟩

theorem fn27 : FnOkC Tryz.prog 27 12 [.cell 2 29] (bodyOf Tryz.f27) := ⟨Tryz.f27, Tryz.func27, by kernel_rfl, by decide, by kernel_rfl, by kernel_rfl⟩
theorem s27 (m : Mg) (ok : OkM m) (okd : ∀ e ∈ m.es, OkD e) : PSpec Tryz.prog 27 [.d (encM m)] (.d (encM m)) := by
 refine PSpec.ofC1 tabOk fn27 (by simp) fun o nk => ?_
 refine wr ?_
 refine u_step (g_box rfl fun o2 hb2 hk2 => ?_)
 refine u_step (g_alloc th29 rfl fun o3 hb3 hk3 => ?_)
 have hb2_3 := (hk3 _ (by omega)).trans hb2
 refine u_nil ?_
 refine wr ?_
 refine uf th29 th26 hb2_3 ?_
 refine ul th26 hb2_3 ?_
 refine u_step (o_pcall ((s65 m.es ok.n okd).frz) rfl ?_)
 refine uf th29 th26 hb2_3 ?_
 refine u_step0 (g_st rfl rfl rfl th26 rfl hb2_3 (by simp) fun o5 hb5 hk5 => ?_)
 have hb3_5 := (hk5 _ (by omega)).trans hb3
 refine u_nil ?_
 refine wr ?_
 refine uf th29 th27 hb5 ?_
 refine ul th27 hb5 ?_
 refine u_step (o_pcall ((s67 m.data ok.b).frz) rfl ?_)
 refine uf th29 th27 hb5 ?_
 refine u_step0 (g_st rfl rfl rfl th27 rfl hb5 (by simp) fun o7 hb7 hk7 => ?_)
 have hb3_7 := (hk7 _ (by omega)).trans hb3_5
 refine u_nil ?_
 refine wr ?_
 refine ug th29 hb7 ?_
 refine u_step0 (g_sta rfl rfl th29 rfl hb3_7 (by first | (simp; done) | (simp [D.leaves, D.width, valCells]; done) | decide) fun o9 hb9 hk9 => ?_)
 have hb7_9 := (hk9 _ (by omega)).trans hb7
 refine u_nil ?_
 refine WP.ret ?_
 refine retC1_ok (resis_agg rfl th29 rfl hb9 rfl rfl rfl) ?_ (by omega) (fun t ht => (hk9 t (by omega)).trans ((hk7 t (by omega)).trans ((hk5 t (by omega)).trans ((hk3 t (by omega)).trans ((hk2 t (by omega)))))))
 rfl

end Go.Proofs.YtmielecljgfnaaaGreat.Abs

set_option linter.unusedVariables false
set_option linter.unusedSimpArgs false
set_option maxRecDepth 10000
namespace Go.Proofs.YtmielecljgfnaaaGreat.Abs
open Go
theorem o_cv_sb {P : Program} {Θ : Tab} {K : SV → (Nat → Option AO) → Nat → Prop} {sl : Nat → SV} {o : Nat → Option AO} {nk e : Nat} {x : Operand} {i j je : TI} {src dst : Nat} {b : List UInt8} (hx : ev sl x = .d (.sl 1 (b.map encU))) (hi : Θ src = some i) (hik : i.k = .slice e) (he : Θ e = some je) (hek : je.k = .int .u8) (hj : Θ dst = some j) (hk : j.k = .str) (h : K (.d (.str b)) o nk) : vOp P Θ (.convert src dst x) ⟨sl, o, nk⟩ K := by
  refine Or.inl ?_
  show coOp Θ o src dst (ev sl x) (fun v => K v o nk)
  rw [hx]
  refine ⟨i, j, hi, hj, hk, ⟨e, je, hik, he, hek⟩, b.map encU, b, by simp [srcOf], ?_, h⟩
  exact byteL_bytesD b
open Classical in
noncomputable def sameM (a b : Mg) : Bool := decide (a = b)
theorem sameM_refl (a : Mg) : sameM a a = true := by simp [sameM]
theorem sameM_iff {a b : Mg} : sameM a b = true ↔ a.kind = b.kind ∧ a.fr = b.fr ∧ a.to = b.to ∧ a.term = b.term ∧ a.n1 = b.n1 ∧ a.n2 = b.n2 ∧ a.n3 = b.n3 ∧ a.n4 = b.n4 ∧ a.fl = b.fl ∧ a.es = b.es ∧ a.data = b.data := by
  cases a; cases b
  simp [sameM]
theorem sameM_no {a b : Mg} (h : a ≠ b) : D.bool false = .bool (sameM a b) := by simp [sameM, h]
theorem sameM_yes {a b : Mg} (h : sameM a b = true) : D.bool true = .bool (sameM a b) := by rw [h]
theorem sameE_no {a b : Etr} (h : sameE a b = false) : a ≠ b := by
  rintro rfl
  rw [sameE_refl] at h; cases h

theorem fn26 : FnOk Tryz.prog 26 104 [4] (bodyOf Tryz.f26) := ⟨Tryz.f26, Tryz.func26, by kernel_rfl, by decide, by kernel_rfl, by kernel_rfl⟩
theorem s26 (a b : Mg) (oa : OkM a) : PSpec Tryz.prog 26 [.d (encM a), .d (encM b)] (.d (.bool (sameM a b))) := by
 have hx := oa.n
 have hxb := oa.b
 refine PSpec.of fn26 (by simp) fun o nk => ?_
 refine wr ?_
 refine u_step (g_box rfl fun o2 hb2 hk2 => ?_)
 refine u_step (g_box rfl fun o3 hb3 hk3 => ?_)
 have hb2_3 := (hk3 _ (by omega)).trans hb2
 refine ua ?_
 refine u_nil ?_
 refine WP.seq fun K4 hK4 => ?_
 refine wr ?_
 refine uf th29 th3 hb2_3 ?_
 refine ul th3 hb2_3 ?_
 refine uf th29 th3 hb3 ?_
 refine ul th3 hb3 ?_
 refine ub ?_
 refine um ?_
 apply gF
 · rfl
 · intro hg
   exact pf th29 th3 hb2_3
 apply gF
 · rfl
 · intro hg; try simp only [hg, ct]; try simp only [hg, ct, Bt]
   exact pl th3 hb2_3
 apply gF
 · rfl
 · intro hg
   exact pf th29 th3 hb3
 apply gF
 · rfl
 · intro hg; try simp only [hg, ct]; try simp only [hg, ct, Bt]
   exact pl th3 hb3
 apply gF
 · rfl
 · intro hg; try simp only [hg, ct]; try simp only [hg, ct, Bt]
   exact pb
 refine uO ?_
 refine um ?_
 apply gF
 · rfl
 · intro hg
   exact pf th29 th3 hb2_3
 apply gF
 · rfl
 · intro hg; try simp only [hg, ct]; try simp only [hg, ct, Bt]
   exact pl th3 hb2_3
 apply gF
 · rfl
 · intro hg
   exact pf th29 th3 hb3
 apply gF
 · rfl
 · intro hg; try simp only [hg, ct]; try simp only [hg, ct, Bt]
   exact pl th3 hb3
 apply gF
 · rfl
 · intro hg; try simp only [hg, ct]; try simp only [hg, ct, Bt]
   exact pb
 refine uO ?_
 refine um ?_
 apply gF
 · rfl
 · intro hg
   exact pf th29 th3 hb2_3
 apply gF
 · rfl
 · intro hg; try simp only [hg, ct]; try simp only [hg, ct, Bt]
   exact pl th3 hb2_3
 apply gF
 · rfl
 · intro hg
   exact pf th29 th3 hb3
 apply gF
 · rfl
 · intro hg; try simp only [hg, ct]; try simp only [hg, ct, Bt]
   exact pl th3 hb3
 apply gF
 · rfl
 · intro hg; try simp only [hg, ct]; try simp only [hg, ct, Bt]
   exact pb
 refine uO ?_
 refine um ?_
 apply gF
 · rfl
 · intro hg
   exact pf th29 th3 hb2_3
 apply gF
 · rfl
 · intro hg; try simp only [hg, ct]; try simp only [hg, ct, Bt]
   exact pl th3 hb2_3
 apply gF
 · rfl
 · intro hg
   exact pf th29 th3 hb3
 apply gF
 · rfl
 · intro hg; try simp only [hg, ct]; try simp only [hg, ct, Bt]
   exact pl th3 hb3
 apply gF
 · rfl
 · intro hg; try simp only [hg, ct]; try simp only [hg, ct, Bt]
   exact pb
 refine uO ?_
 refine um ?_
 apply gF
 · rfl
 · intro hg
   exact pf th29 th3 hb2_3
 apply gF
 · rfl
 · intro hg; try simp only [hg, ct]; try simp only [hg, ct, Bt]
   exact pl th3 hb2_3
 apply gF
 · rfl
 · intro hg
   exact pf th29 th3 hb3
 apply gF
 · rfl
 · intro hg; try simp only [hg, ct]; try simp only [hg, ct, Bt]
   exact pl th3 hb3
 apply gF
 · rfl
 · intro hg; try simp only [hg, ct]; try simp only [hg, ct, Bt]
   exact pb
 refine uO ?_
 refine um ?_
 apply gF
 · rfl
 · intro hg
   exact pf th29 th3 hb2_3
 apply gF
 · rfl
 · intro hg; try simp only [hg, ct]; try simp only [hg, ct, Bt]
   exact pl th3 hb2_3
 apply gF
 · rfl
 · intro hg
   exact pf th29 th3 hb3
 apply gF
 · rfl
 · intro hg; try simp only [hg, ct]; try simp only [hg, ct, Bt]
   exact pl th3 hb3
 apply gF
 · rfl
 · intro hg; try simp only [hg, ct]; try simp only [hg, ct, Bt]
   exact pb
 refine uO ?_
 refine um ?_
 apply gF
 · rfl
 · intro hg
   exact pf th29 th3 hb2_3
 apply gF
 · rfl
 · intro hg; try simp only [hg, ct]; try simp only [hg, ct, Bt]
   exact pl th3 hb2_3
 apply gF
 · rfl
 · intro hg
   exact pf th29 th3 hb3
 apply gF
 · rfl
 · intro hg; try simp only [hg, ct]; try simp only [hg, ct, Bt]
   exact pl th3 hb3
 apply gF
 · rfl
 · intro hg; try simp only [hg, ct]; try simp only [hg, ct, Bt]
   exact pb
 refine uO ?_
 refine um ?_
 apply gF
 · rfl
 · intro hg
   exact pf th29 th4 hb2_3
 apply gF
 · rfl
 · intro hg; try simp only [hg, ct]; try simp only [hg, ct, Bt]
   exact pl th4 hb2_3
 apply gF
 · rfl
 · intro hg
   exact pf th29 th4 hb3
 apply gF
 · rfl
 · intro hg; try simp only [hg, ct]; try simp only [hg, ct, Bt]
   exact pl th4 hb3
 apply gF
 · rfl
 · intro hg; try simp only [hg, ct]; try simp only [hg, ct, Bt]
   refine o_bin_neb rfl rfl th4 rfl ⟨rfl, rfl, rfl⟩
 refine uO ?_
 refine um ?_
 apply gF
 · rfl
 · intro hg
   exact pf th29 th26 hb2_3
 apply gF
 · rfl
 · intro hg; try simp only [hg, ct]; try simp only [hg, ct, Bt]
   exact pl th26 hb2_3
 apply gF
 · rfl
 · intro hg; try simp only [hg, ct]; try simp only [hg, ct, Bt]
   exact pn th26
 apply gF
 · rfl
 · intro hg
   exact pf th29 th26 hb3
 apply gF
 · rfl
 · intro hg; try simp only [hg, ct]; try simp only [hg, ct, Bt]
   exact pl th26 hb3
 apply gF
 · rfl
 · intro hg; try simp only [hg, ct]; try simp only [hg, ct, Bt]
   exact pn th26
 apply gF
 · rfl
 · intro hg; try simp only [hg, ct]; try simp only [hg, ct, Bt]
   exact pb
 refine uO ?_
 refine um ?_
 apply gF
 · rfl
 · intro hg
   exact pf th29 th27 hb2_3
 apply gF
 · rfl
 · intro hg; try simp only [hg, ct]; try simp only [hg, ct, Bt]
   exact pl th27 hb2_3
 apply gF
 · rfl
 · intro hg; try simp only [hg, ct]; try simp only [hg, ct, Bt]
   refine o_cv_sb rfl th27 rfl th5 rfl th9 rfl ⟨rfl, rfl, rfl⟩
 apply gF
 · rfl
 · intro hg
   exact pf th29 th27 hb3
 apply gF
 · rfl
 · intro hg; try simp only [hg, ct]; try simp only [hg, ct, Bt]
   exact pl th27 hb3
 apply gF
 · rfl
 · intro hg; try simp only [hg, ct]; try simp only [hg, ct, Bt]
   refine o_cv_sb rfl th27 rfl th5 rfl th9 rfl ⟨rfl, rfl, rfl⟩
 apply gF
 · rfl
 · intro hg; try simp only [hg, ct]; try simp only [hg, ct, Bt]
   exact ps
 refine uO ?_
 refine u_nil ?_
 refine wc (fun hc6 => ?_) (fun hc6 => ?_) <;> try simp only [Q0, Q1, Q2, Q3, Q4, Q5, Q6, Q7, Q8, ge_iff_le, gt_iff_lt] at hc6
 ·
  refine wr ?_
  refine ua ?_
  refine u_nil ?_
  refine WP.ret ?_
  refine ret_ok rfl ?_ (by omega) (fun t ht => (hk3 t (by omega)).trans ((hk2 t (by omega))))
  -- ret 1
  refine sameM_no ?_
  rintro rfl
  have hl := hc6
  simp at hl
 ·
  have hab : a.kind = b.kind ∧ a.fr = b.fr ∧ a.to = b.to ∧ a.term = b.term ∧ a.n1 = b.n1 ∧ a.n2 = b.n2 ∧ a.n3 = b.n3 ∧ a.n4 = b.n4 ∧ a.fl = b.fl ∧ a.es.length = b.es.length ∧ a.data = b.data := by have := hc6; simp at this; grind
  have hlen := hab.2.2.2.2.2.2.2.2.2.1
  refine WP.skip ?_
  refine hK4 _ ?_
  refine WP.seq fun K8 hK8 => ?_
  refine wr ?_
  refine ua ?_
  refine u_nil ?_
  refine WP.block ?_
  refine WP.loopL (ι := Nat) (fun i => ⟨al [(2, .loc nk 0), (3, .loc (nk + 1) 0), (5, .d (.int .i64 i))], o3, ((nk + 1) + 1)⟩) (fun i => i ≤ a.es.length ∧ ∀ (j : Nat) (hj : j < a.es.length) (hk : j < b.es.length), j < i → a.es[j] = b.es[j]) (fun i => a.es.length - i) (fun i hA => ?_) 0 ?_ ?_
  ·
   obtain ⟨hle_i, hin_i⟩ := hA
   refine WP.seq fun K10 hK10 => ?_
   refine wr ?_
   refine um ?_
   refine uf th29 th26 hb2_3 ?_
   refine ul th26 hb2_3 ?_
   refine un th26 ?_
   refine ub ?_
   refine u_nil ?_
   refine wc (fun hc12 => ?_) (fun hc12 => ?_) <;> try simp only [Q0, Q1, Q2, Q3, Q4, Q5, Q6, Q7, Q8, ge_iff_le, gt_iff_lt] at hc12
   ·
    have hil : i < a.es.length := by have := hc12; (try simp at this); omega
    have hil2 : i < b.es.length := by omega
    refine WP.skip ?_
    refine hK10 _ ?_
    refine WP.seq fun K13 hK13 => ?_
    refine WP.block ?_
    refine wd ?_
    refine df th29 th26 hb2_3 ?_
    refine dl th26 hb2_3 ?_
    refine dm ?_
    first | refine d_step (o_ia_map rfl rfl th26 rfl th72 rfl (by omega) ⟨rfl, rfl, rfl⟩) ?_ | refine d_step (o_ia_vs rfl rfl th26 rfl th72 rfl (by omega) ⟨rfl, rfl, rfl⟩) ?_
    refine dL th72 ?_
    refine df th29 th26 hb3 ?_
    refine dl th26 hb3 ?_
    refine dm ?_
    first | refine d_step (o_ia_map rfl rfl th26 rfl th72 rfl (by omega) ⟨rfl, rfl, rfl⟩) ?_ | refine d_step (o_ia_vs rfl rfl th26 rfl th72 rfl (by omega) ⟨rfl, rfl, rfl⟩) ?_
    refine dL th72 ?_
    refine d_step (o_pcall (s64 a.es[i] b.es[i]) rfl ⟨rfl, rfl, rfl⟩) ?_
    refine dN ?_
    refine d_nil ?_
    refine wc (fun hc15 => ?_) (fun hc15 => ?_) <;> try simp only [Q0, Q1, Q2, Q3, Q4, Q5, Q6, Q7, Q8, ge_iff_le, gt_iff_lt] at hc15
    ·
     refine wr ?_
     refine ua ?_
     refine u_nil ?_
     refine WP.ret ?_
     refine ret_ok rfl ?_ (by omega) (fun t ht => (hk3 t (by omega)).trans ((hk2 t (by omega))))
     -- ret 2
     refine sameM_no ?_
     have hl := hc15
     have hs : sameE a.es[i] b.es[i] = false := by simpa using hl
     have hne := sameE_no hs
     intro he
     apply hne
     congr 1
     rw [he]
    ·
     refine WP.skip ?_
     refine hK13 _ ?_
     refine WP.reg tabOk rfl ?_
     refine um ?_
     refine ub ?_
     refine ua ?_
     refine u_nil ?_
     -- back
     refine ⟨i + 1, ⟨by omega, ?_⟩, by omega, ?_⟩
     · intro j hj hk h1
       by_cases h2 : j = i
       · subst h2; have hl := hc15; have hs : sameE a.es[j] b.es[j] = true := by first | exact hl | simpa using hl
         simpa [sameE] using hs
       · exact hin_i j hj hk (by omega)
     · refine Le.al ?_
       simp only [List.forall_mem_cons]
       exact ⟨rfl, rfl, cnt (by omega), by simp⟩
   ·
    refine WP.exit ?_
    refine hK8 _ ?_
    refine wr ?_
    refine ua ?_
    refine u_nil ?_
    refine WP.ret ?_
    refine ret_ok rfl ?_ (by omega) (fun t ht => (hk3 t (by omega)).trans ((hk2 t (by omega))))
    -- ret 3
    refine sameM_yes (sameM_iff.2 ?_)
    have hes : a.es = b.es := List.ext_getElem hlen fun j h1 h2 => hin_i j h1 h2 (by omega)
    grind
  ·
   simp
  ·
   refine Le.al ?_
   simp only [List.forall_mem_cons]
   exact ⟨rfl, rfl, rfl, by simp⟩

end Go.Proofs.YtmielecljgfnaaaGreat.Abs

/- A run of code that is computed: loops, calls. -/
set_option linter.unusedVariables false
set_option linter.unusedSimpArgs false
namespace Go.Proofs.YtmielecljgfnaaaGreat.Abs
open Go

section
variable (Θ : Tab) (nofr : Nat → Bool) (call : Nat → List SV → TM AO → Nat → Option XR)
/-- Rows that a drawn region's calls are handed. -/
def preD (l : List Oper) (s : XS) : List Nat := l.flatMap fun op => preF nofr op.op s
def postD (l : List Oper) (s : XS) : List Nat := l.flatMap fun op => postF op.op s
def xDrawF (ops : Array Oper) (s : XS) : Option XS :=
  match s.frzs (preD nofr ops.toList s) with
  | s1 => match xDraw Θ call ops s1 with
    | some s' => some s'
    | none => match xDraw Θ call ops ((s1.frzs (postD ops.toList s1)).soft) with
      | some s' => some s'
      | none => match xDrawP Θ call ops s1 with
        | some s' => some s'
        | none => xDrawP Θ call ops ((s1.frzs (postD ops.toList s1)).soft)
end

/-- The results of a body. -/
def xRes (Θ : Tab) : List ResultVar → XS → Option (List SV × XS)
  | [], s => some ([], s)
  | .tmp t :: r, s => match xRes Θ r s with
    | none => none
    | some (vs, s') => match s'.sl.get t with
      | none => some (.any :: vs, s')
      | some v => some (v :: vs, s')
  | .cell a t :: r, s => match xRes Θ r s with
    | none => none
    | some (vs, s') => match s'.sl.get a with
      | some (.loc k f) => match xld Θ s'.o.get t (.loc k f) with
        | some v => some (v :: vs, s')
        | none => none
      | _ => none
def cellsR (s : XS) : List ResultVar → List Nat
  | [] => []
  | .tmp _ :: r => cellsR s r
  | .cell a _ :: r => (match s.sl.get a with
    | some c => rowsO s.o c
    | none => []) ++ cellsR s r
theorem xRes_ok {Θ : Tab} : ∀ {rs : List ResultVar} {s s' : XS} {vs : List SV}, xRes Θ rs s = some (vs, s') → s' = s ∧ ResL Θ s.st rs vs
  | [], s, s', vs, h => by
    simp only [xRes, Option.some.injEq, Prod.mk.injEq] at h
    obtain ⟨rfl, rfl⟩ := h
    exact ⟨rfl, trivial⟩
  | .tmp t :: r, s, s', vs, h => by
    simp only [xRes] at h
    split at h
    · cases h
    · rename_i vs1 s1 h1
      obtain ⟨rfl, h2⟩ := xRes_ok h1
      split at h
      · rename_i hg
        simp only [Option.some.injEq, Prod.mk.injEq] at h
        obtain ⟨rfl, rfl⟩ := h
        exact ⟨rfl, (by show SV.any = (s1.sl.get t).getD .any; rw [hg]; rfl), h2⟩
      · rename_i v hg
        simp only [Option.some.injEq, Prod.mk.injEq] at h
        obtain ⟨rfl, rfl⟩ := h
        exact ⟨rfl, (by show v = (s1.sl.get t).getD .any; rw [hg]; rfl), h2⟩
  | .cell a t :: r, s, s', vs, h => by
    simp only [xRes] at h
    split at h
    · cases h
    · rename_i vs1 s1 h1
      obtain ⟨rfl, h2⟩ := xRes_ok h1
      split at h
      · rename_i k f hg
        split at h
        · rename_i v hv
          simp only [Option.some.injEq, Prod.mk.injEq] at h
          obtain ⟨rfl, rfl⟩ := h
          have hsl : s1.st.sl a = .loc k f := by show (s1.sl.get a).getD .any = _; rw [hg]; rfl
          refine ⟨rfl, ⟨⟨k, f, hsl⟩, ?_⟩, h2⟩
          rw [hsl]
          exact xld_ok Θ hv rfl
        · cases h
      · cases h

/-- The functions' table, and the contracts of those that are not run. -/
structure Env where
  Θ : Tab
  tb : Nat → Option Func
  nat : Nat → List SV → Option D
  nofr : Nat → Bool
structure EnvOk (P : Program) (X : Env) : Prop where
  hΘ : TabOk P X.Θ
  tb : ∀ f fn, X.tb f = some fn → P.funcs[f]? = some fn ∧ (fn.name == "runtime.NumGoroutine") = false
  nat : ∀ f asx d, X.nat f asx = some d → PSpec P f asx (.d d)
  mix : P.follows .mixedOrders = true

mutual
def xCall (X : Env) : Nat → Nat → List SV → TM AO → Nat → Option XR
  | 0, _, _, _, _ => none
  | m + 1, f, asx, o, nk => match X.nat f asx with
    | some d => some (.d d, o, nk)
    | none => match X.tb f with
      | none => none
      | some fn => match fn.body with
        | none => none
        | some c => bif Nat.ble asx.length fn.ntmps then match xC X m fn.ntmps c ⟨TM.ofList asx, o, nk⟩ with
            | none => none
            | some (e, s) => match (match e with
                | .normal => true
                | .ret => true
                | _ => false) with
              | false => none
              | true => match xRes X.Θ fn.results.toList s with
                | some (vs, s') => some (tupOf vs, s'.o, s'.nk)
                | none => match s.frzs (cellsR s fn.results.toList) with
                  | s1 => match xRes X.Θ fn.results.toList s1 with
                    | some (vs, s') => some (tupOf vs, s'.o, s'.nk)
                    | none => none
          else none
def xC (X : Env) : Nat → Nat → Code → XS → Option (Exit × XS)
  | 0, _, _, _ => none
  | m + 1, n, c, s => match c with
    | .skip => some (.normal, s)
    | .ret => some (.ret, s)
    | .exit id => some (.exit id, s)
    | .seq x y => match xC X m n x s with
      | none => none
      | some (e, s') => match e with
        | .normal => xC X m n y s'
        | e => some (e, s')
    | .block id c => match xC X m n c s with
      | none => none
      | some (e, s') => match e with
        | .exit id' => bif Nat.beq id' id then some (.normal, s') else some (.exit id', s')
        | e => some (e, s')
    | .cond x c d => match xev s x with
      | .d (.bool true) => xC X m n c s
      | .d (.bool false) => xC X m n d s
      | _ => none
    | .loop c => match xC X m n c s with
      | none => none
      | some (e, s') => match e with
        | .normal => xC X m n (.loop c) s'
        | e => some (e, s')
    | .scope c => match xC X m n c s with
      | none => none
      | some (e, s') => match e with
        | .goto _ => none
        | e => some (e, s')
    | .region _ ops drawn => bif ops.toList.all fun o => dstOk n o.dst then match drawn with
        | false => match xOps X.Θ X.nofr (xCall X m) ops ops.toList s with
          | some s' => some (.normal, s')
          | none => none
        | true => match xDrawF X.Θ X.nofr (xCall X m) ops s with
          | some s' => some (.normal, s')
          | none => none
      else none
    | _ => none
end

/-- What a run that was computed tells. -/
def Ran (P : Program) (n : Nat) (c : Code) (s : XS) (e : Exit) (s' : XS) : Prop := ∀ E a w, E.n = n → Rel E s.st a w → c.wp P (fun e2 a2 w2 => e2 = e ∧ Rel E s'.st a2 w2) a w
theorem xDrawF_ok {P : Program} {Θ : Tab} {nofr : Nat → Bool} {call : Nat → List SV → TM AO → Nat → Option XR} {n : Nat} (hΘ : TabOk P Θ) (hm : P.follows .mixedOrders = true) (hc : CallOk P call) {id : Nat} {ops : Array Oper} {s s' : XS} (hd : (ops.toList.all fun o => dstOk n o.dst) = true)
    (h : xDrawF Θ nofr call ops s = some s') : Ran P n (.region id ops true) s .normal s' := by
  have key : ∀ {s1 : XS}, xDraw Θ call ops s1 = some s' → ∀ E a w, E.n = n → Rel E s1.st a w → (Code.region id ops true).wp P (fun e2 a2 w2 => e2 = .normal ∧ Rel E s'.st a2 w2) a w := by
    intro s1 h1 E a w he hr
    have := xDraw_ok (Θ := Θ) (call := call) (P := P) (n := n) (k0 := E.nk) (Q := fun e s2 => e = .normal ∧ s2 = s'.st) (id := id) hΘ hm hc hd h1 ⟨rfl, rfl⟩ E a w he rfl hr
    exact Go.wp_mono this (by rintro e a' w' ⟨s2, h2, rfl, rfl⟩; exact ⟨rfl, h2⟩)
  have keyP : ∀ {s1 : XS}, xDrawP Θ call ops s1 = some s' → ∀ E a w, E.n = n → Rel E s1.st a w → (Code.region id ops true).wp P (fun e2 a2 w2 => e2 = .normal ∧ Rel E s'.st a2 w2) a w := by
    intro s1 h1 E a w he hr
    have := xDrawP_ok (Θ := Θ) (call := call) (P := P) (n := n) (k0 := E.nk) (Q := fun e s2 => e = .normal ∧ s2 = s'.st) (id := id) hΘ hm hc hd h1 ⟨rfl, rfl⟩ E a w he rfl hr
    exact Go.wp_mono this (by rintro e a' w' ⟨s2, h2, rfl, rfl⟩; exact ⟨rfl, h2⟩)
  intro E a w he hr
  unfold xDrawF at h
  simp only at h
  have hr1 := XS.frzs_ok (preD nofr ops.toList s) hr
  split at h
  · rename_i s2 h2
    simp only [Option.some.injEq] at h
    subst h
    exact key h2 E a w he hr1
  · split at h
    · rename_i s2 h2
      simp only [Option.some.injEq] at h
      subst h
      exact key h2 E a w he (XS.soft_ok (XS.frzs_ok _ hr1))
    · split at h
      · rename_i s2 h2
        simp only [Option.some.injEq] at h
        subst h
        exact keyP h2 E a w he hr1
      · exact keyP h E a w he (XS.soft_ok (XS.frzs_ok _ hr1))
theorem cond_bool {E : Ent} {s : XS} {a : Act} {w : World} {x : Operand} {b : Bool} (hr : Rel E s.st a w) (h : xev s x = .d (.bool b)) : a.eval x = .bool b := by
  obtain ⟨S, γ, hr⟩ := hr
  have h1 := hr.fr.ev x
  rw [← xev_eq, h] at h1
  generalize a.eval x = u at h1
  cases h1 with
  | d _ _ h2 => cases h2; rfl
theorem xC_loop {P : Program} {X : Env} : ∀ (m : Nat), (∀ k, k < m → ∀ n c s e s', xC X k n c s = some (e, s') → Ran P n c s e s') → ∀ n c s e s', xC X m n (.loop c) s = some (e, s') → ∀ E, E.n = n →
    ∃ k, ∀ a w, Rel E s.st a w → Code.rounds P c (fun e2 a2 w2 => e2 = e ∧ Rel E s'.st a2 w2) k a w
  | 0, _, n, c, s, e, s', h, _, _ => by simp [xC] at h
  | m + 1, ih, n, c, s, e, s', h, E, he => by
    simp only [xC] at h
    cases hb : xC X m n c s with
    | none => rw [hb] at h; cases h
    | some p =>
      obtain ⟨e1, s1⟩ := p
      rw [hb] at h
      have h1 := ih m (by omega) _ _ _ _ _ hb E
      cases e1 with
      | normal =>
        simp only at h
        obtain ⟨k, hk⟩ := xC_loop m (fun k hk => ih k (by omega)) n c s1 e s' h E he
        refine ⟨k + 1, fun a w hr => Go.wp_mono (h1 a w he hr) ?_⟩
        rintro e2 a2 w2 ⟨rfl, h2⟩
        exact hk a2 w2 h2
      | _ =>
        simp only [Option.some.injEq, Prod.mk.injEq] at h
        obtain ⟨rfl, rfl⟩ := h
        refine ⟨1, fun a w hr => Go.wp_mono (h1 a w he hr) ?_⟩
        rintro e2 a2 w2 ⟨rfl, h2⟩
        exact ⟨rfl, h2⟩
theorem of_list_st (asx : List SV) (o : TM AO) (nk : Nat) : (XS.mk (TM.ofList asx) o nk).st = { sl := slots asx, o := o.get, nk := nk } := by
  simp only [XS.st, St.mk.injEq, and_true]
  funext u
  rw [TM.get_ofList]
  simp [slots]
theorem ret_res {P : Program} {Θ : Tab} {E : Ent} {s s2 : XS} {rs : List ResultVar} {vs : List SV} {e : Exit} {a : Act} {w : World} (he : e = .normal ∨ e = .ret) (h : xRes Θ rs s = some (vs, s2)) (hr : Rel E s.st a w) :
    ∃ s3, Rel E s3 a w ∧ retC Θ rs (fun r2 o2 n2 => r2 = tupOf vs ∧ o2 = s2.o.get ∧ n2 = s2.nk) e s3 := by
  obtain ⟨rfl, h2⟩ := xRes_ok h
  refine ⟨_, hr, ?_⟩
  rcases he with rfl | rfl <;> exact ⟨vs, h2, rfl, rfl, rfl⟩
theorem xC_ok {P : Program} {X : Env} (hX : EnvOk P X) : ∀ m, (∀ n c s e s', xC X m n c s = some (e, s') → Ran P n c s e s') ∧ CallOk P (xCall X m) := by
  intro m
  induction m using Nat.strongRecOn with
  | _ m ih =>
    cases m with
    | zero => exact ⟨fun n c s e s' h => by simp [xC] at h, fun f asx o nk r o' nk' h => by simp [xCall] at h⟩
    | succ m =>
      obtain ⟨ihC, ihF⟩ := ih m (by omega)
      constructor
      · intro n c s e s' h
        cases c with
        | skip =>
          simp only [xC, Option.some.injEq, Prod.mk.injEq] at h
          obtain ⟨rfl, rfl⟩ := h
          exact fun E a w he hr => wp_skip ⟨rfl, hr⟩
        | ret =>
          simp only [xC, Option.some.injEq, Prod.mk.injEq] at h
          obtain ⟨rfl, rfl⟩ := h
          exact fun E a w he hr => wp_ret ⟨rfl, hr⟩
        | exit id =>
          simp only [xC, Option.some.injEq, Prod.mk.injEq] at h
          obtain ⟨rfl, rfl⟩ := h
          exact fun E a w he hr => wp_exit ⟨rfl, hr⟩
        | seq x y =>
          simp only [xC] at h
          cases hb : xC X m n x s with
          | none => rw [hb] at h; cases h
          | some p =>
            obtain ⟨e1, s1⟩ := p
            rw [hb] at h
            have h1 := ihC _ _ _ _ _ hb
            intro E a w he hr
            refine wp_seq (Go.wp_mono (h1 E a w he hr) ?_)
            rintro e2 a2 w2 ⟨rfl, h2⟩
            cases e2 with
            | normal => exact ihC _ _ _ _ _ h E a2 w2 he h2
            | _ =>
              simp only [Option.some.injEq, Prod.mk.injEq] at h
              obtain ⟨rfl, rfl⟩ := h
              exact ⟨rfl, h2⟩
        | block id c =>
          simp only [xC] at h
          cases hb : xC X m n c s with
          | none => rw [hb] at h; cases h
          | some p =>
            obtain ⟨e1, s1⟩ := p
            rw [hb] at h
            have h1 := ihC _ _ _ _ _ hb
            intro E a w he hr
            refine wp_block (Go.wp_mono (h1 E a w he hr) ?_)
            rintro e2 a2 w2 ⟨rfl, h2⟩
            cases e2 with
            | exit id' =>
              simp only at h
              show if id' = id then _ else _
              by_cases hid : id' = id
              · subst hid
                rw [if_pos rfl]
                simp only [Nat.beq_refl, cond_true, Option.some.injEq, Prod.mk.injEq] at h
                obtain ⟨rfl, rfl⟩ := h
                exact ⟨rfl, h2⟩
              · rw [if_neg hid]
                rw [TM.beq_cond, if_neg hid] at h
                simp only [Option.some.injEq, Prod.mk.injEq] at h
                obtain ⟨rfl, rfl⟩ := h
                exact ⟨rfl, h2⟩
            | _ =>
              simp only [Option.some.injEq, Prod.mk.injEq] at h
              obtain ⟨rfl, rfl⟩ := h
              exact ⟨rfl, h2⟩
        | cond x c d =>
          simp only [xC] at h
          intro E a w he hr
          split at h
          · rename_i hx
            exact wp_cond_true (cond_bool hr hx) (ihC _ _ _ _ _ h E a w he hr)
          · rename_i hx
            exact wp_cond_false (cond_bool hr hx) (ihC _ _ _ _ _ h E a w he hr)
          · cases h
        | loop c =>
          intro E a w he hr
          obtain ⟨k, hk⟩ := xC_loop (m + 1) (fun k hk => (ih k hk).1) n c s e s' h E he
          exact wp_loop_rounds k (hk a w hr)
        | scope c =>
          simp only [xC] at h
          cases hb : xC X m n c s with
          | none => rw [hb] at h; cases h
          | some p =>
            obtain ⟨e1, s1⟩ := p
            rw [hb] at h
            have h1 := ihC _ _ _ _ _ hb
            intro E a w he hr
            refine wp_scope_straight (Go.wp_mono (h1 E a w he hr) ?_)
            rintro e2 a2 w2 ⟨rfl, h2⟩
            cases e2 <;> first | (cases h; done) | (simp only [Option.some.injEq, Prod.mk.injEq] at h; obtain ⟨rfl, rfl⟩ := h; exact ⟨rfl, h2⟩)
        | region id ops drawn =>
          simp only [xC] at h
          cases hd : (ops.toList.all fun o => dstOk n o.dst) with
          | false => rw [hd] at h; cases h
          | true =>
            rw [hd] at h
            simp only [cond_true] at h
            cases drawn with
            | false =>
              simp only at h
              split at h
              · rename_i s1 hs1
                simp only [Option.some.injEq, Prod.mk.injEq] at h
                obtain ⟨rfl, rfl⟩ := h
                intro E a w he hr
                refine wp_region_list ?_
                exact xOps_ok hX.hΘ ihF (fun a w hr => ⟨rfl, hr⟩) _ _ a w (by rw [he]; exact hd) hr hs1
              · cases h
            | true =>
              simp only at h
              split at h
              · rename_i s1 hs1
                simp only [Option.some.injEq, Prod.mk.injEq] at h
                obtain ⟨rfl, rfl⟩ := h
                exact xDrawF_ok hX.hΘ hX.mix ihF hd hs1
              · cases h
        | _ => simp [xC] at h
      · intro f asx o nk r o' nk' h
        simp only [xCall] at h
        split at h
        · rename_i d hd
          simp only [Option.some.injEq, Prod.mk.injEq] at h
          obtain ⟨rfl, rfl, rfl⟩ := h
          exact hX.nat f asx d hd o.get nk
        · split at h
          · cases h
          · rename_i fn hfn
            split at h
            · cases h
            · rename_i c hbody
              cases hle : Nat.ble asx.length fn.ntmps with
              | false => rw [hle] at h; cases h
              | true =>
                rw [hle] at h
                simp only [cond_true] at h
                split at h
                · cases h
                · rename_i e s1 hrun
                  have hrun := ihC _ _ _ _ _ hrun
                  split at h
                  · cases h
                  · rename_i he
                    have he : e = .normal ∨ e = .ret := by cases e <;> simp_all
                    obtain ⟨k1, k2⟩ := hX.tb f fn hfn
                    refine Spec.of_bodyC hX.hΘ (rs := fn.results.toList) (c := c) (n := fn.ntmps) ⟨fn, k1, hbody, k2, rfl, rfl⟩ (Nat.le_of_ble_eq_true hle) ?_
                    rw [← of_list_st]
                    intro E a w hn _ hr
                    refine Go.wp_mono (hrun E a w hn hr) ?_
                    rintro e2 a2 w2 ⟨rfl, h2⟩
                    split at h
                    · rename_i vs s2 hres
                      simp only [Option.some.injEq, Prod.mk.injEq] at h
                      obtain ⟨rfl, rfl, rfl⟩ := h
                      exact ret_res (P := P) he hres h2
                    · split at h
                      · rename_i vs s2 hres
                        simp only [Option.some.injEq, Prod.mk.injEq] at h
                        obtain ⟨rfl, rfl, rfl⟩ := h
                        exact ret_res (P := P) he hres (XS.frzs_ok _ h2)
                      · cases h

/-! ### runs from nothing -/
theorem Spec.close {P : Program} {f : FuncId} {xs : List D} {x : D} (h : Spec P f (xs.map .d) (fun _ => none) 0 fun r _ _ => r = .d x) : PSpec P f (xs.map .d) (.d x) := by
  intro o nk w S γ vs h1 h2 h3 h4
  have hd : ∀ (i : Nat) (c : SV) (v : Value), (xs.map SV.d)[i]? = some c → vs[i]? = some v → SR w S γ (fun _ => none) c v := fun i c v hc hv => by
    have hr := h3 i c v hc hv
    rw [List.getElem?_map] at hc
    obtain ⟨y, _, rfl⟩ := Option.map_eq_some_iff.1 hc
    cases hr with
    | d _ _ hr => exact .d _ _ hr
  have hl : SV.lts 0 (xs.map SV.d) := lts_of fun i c hc => by
    rw [List.getElem?_map] at hc
    obtain ⟨d, _, rfl⟩ := Option.map_eq_some_iff.1 hc
    trivial
  have hs : Sto w S γ (fun _ => none) 0 := ⟨h1.s_lt, fun _ _ h => (by cases h), fun _ _ h => (by cases h), fun _ _ _ _ h => (by cases h), fun _ _ h => (by cases h), fun _ _ _ h => (by cases h), fun _ _ _ _ _ _ h => (by cases h)⟩
  refine (h w S γ vs hs h2 hd hl).mono ?_
  rintro v w' ⟨r, o', nk', S', γ', rfl, k1, k2, k3, k4⟩
  have hk : ∀ k, k < w.heap.size → w'.heap[k]? = w.heap[k]? := fun k hk => k2.kept k hk (by rintro ⟨t, x, ht, _⟩; cases ht)
  obtain ⟨m1, m2⟩ := h1.more (w' := w') (fun k => w.heap.size ≤ k ∧ k < w'.heap.size) (fun _ h => h) k2.os k2.tape k2.output k2.size hk
  refine ⟨_, o, nk, _, γ, ⟨rfl, rfl, rfl⟩, m1, m2, ?_, trivial⟩
  cases k3 with
  | d _ _ hr =>
    refine .d _ _ (hr.mono (fun k hk => ?_) fun _ _ => rfl)
    rcases k2.s_new k hk with h | h | ⟨t, x, ht, _⟩
    · exact .inl h
    · exact .inr ⟨h, k1.s_lt k hk⟩
    · cases ht
def isD (x : D) : Option XR → Bool
  | some (.d y, _, _) => D.eqb x y
  | _ => false
/-- What the run yields, the function yields, whatever there is beside. -/
theorem PSpec.run {P : Program} {X : Env} (hX : EnvOk P X) (m : Nat) {f : FuncId} {xs : List D} {x : D} (h : isD x (xCall X m f (xs.map .d) .e 0) = true) : PSpec P f (xs.map .d) (.d x) := by
  refine Spec.close ?_
  cases hx : xCall X m f (xs.map .d) .e 0 with
  | none => rw [hx] at h; cases h
  | some p =>
    obtain ⟨r, o', nk'⟩ := p
    rw [hx] at h
    have hs := (xC_ok hX m).2 _ _ _ _ _ _ _ hx
    have he : (TM.e : TM AO).get = fun _ => none := by funext u; rfl
    rw [he] at hs
    refine hs.mono ?_
    rintro r2 o2 n2 ⟨rfl, _, _⟩
    cases r2 <;> simp only [isD] at h <;> try (cases h; done)
    rw [D.eqb_ok _ _ h]
def tbF : List (Nat × Func) → Nat → Option Func
  | [], _ => none
  | (k, fn) :: r, f => bif Nat.beq k f then some fn else tbF r f
theorem tbF_ok {P : Program} : ∀ (l : List (Nat × Func)), (∀ p ∈ l, P.funcs[p.1]? = some p.2 ∧ (p.2.name == "runtime.NumGoroutine") = false) → ∀ f fn, tbF l f = some fn → P.funcs[f]? = some fn ∧ (fn.name == "runtime.NumGoroutine") = false
  | [], _, f, fn, h => by simp [tbF] at h
  | (k, g) :: r, hl, f, fn, h => by
    simp only [tbF, TM.beq_cond] at h
    split at h
    · rename_i hk
      subst hk
      simp only [Option.some.injEq] at h
      subst h
      exact hl (k, g) (by simp)
    · exact tbF_ok r (fun p hp => hl p (by simp [hp])) f fn h
end Go.Proofs.YtmielecljgfnaaaGreat.Abs

/- A run in the kernel. -/
set_option linter.unusedVariables false
set_option maxRecDepth 100000
namespace Go.Proofs.YtmielecljgfnaaaGreat.Abs.Run23
open Go
noncomputable def tbl : List (Nat × Func) := [(23, Tryz.f23), (24, Tryz.f24), (26, Tryz.f26), (27, Tryz.f27), (28, Tryz.f28), (29, Tryz.f29), (32, Tryz.f32), (55, Tryz.f55), (56, Tryz.f56), (57, Tryz.f57), (58, Tryz.f58), (59, Tryz.f59), (60, Tryz.f60), (64, Tryz.f64), (65, Tryz.f65), (66, Tryz.f66), (67, Tryz.f67), (68, Tryz.f68), (69, Tryz.f69), (70, Tryz.f70), (71, Tryz.f71), (72, Tryz.f72), (73, Tryz.f73), (74, Tryz.f74), (75, Tryz.f75), (83, Tryz.f83), (84, Tryz.f84), (85, Tryz.f85), (96, Tryz.f96), (103, Tryz.f103), (107, Tryz.f107), (108, Tryz.f108), (112, Tryz.f112), (113, Tryz.f113), (114, Tryz.f114), (115, Tryz.f115), (116, Tryz.f116), (122, Tryz.f122), (123, Tryz.f123), (124, Tryz.f124), (125, Tryz.f125), (126, Tryz.f126), (127, Tryz.f127), (128, Tryz.f128), (129, Tryz.f129), (130, Tryz.f130), (131, Tryz.f131), (132, Tryz.f132), (133, Tryz.f133), (134, Tryz.f134), (142, Tryz.f142), (143, Tryz.f143), (146, Tryz.f146), (160, Tryz.f160), (164, Tryz.f164), (171, Tryz.f171), (172, Tryz.f172), (173, Tryz.f173), (174, Tryz.f174), (175, Tryz.f175), (182, Tryz.f182), (183, Tryz.f183), (184, Tryz.f184), (185, Tryz.f185), (186, Tryz.f186), (187, Tryz.f187), (191, Tryz.f191), (192, Tryz.f192), (193, Tryz.f193), (197, Tryz.f197), (209, Tryz.f209), (210, Tryz.f210), (213, Tryz.f213), (214, Tryz.f214), (220, Tryz.f220), (221, Tryz.f221), (222, Tryz.f222), (223, Tryz.f223), (224, Tryz.f224), (225, Tryz.f225), (228, Tryz.f228), (229, Tryz.f229), (230, Tryz.f230), (231, Tryz.f231), (232, Tryz.f232), (236, Tryz.f236), (237, Tryz.f237), (238, Tryz.f238), (239, Tryz.f239), (240, Tryz.f240), (245, Tryz.f245), (246, Tryz.f246), (247, Tryz.f247), (256, Tryz.f256), (257, Tryz.f257), (261, Tryz.f261), (262, Tryz.f262), (263, Tryz.f263), (264, Tryz.f264), (265, Tryz.f265), (266, Tryz.f266), (267, Tryz.f267), (268, Tryz.f268), (269, Tryz.f269), (270, Tryz.f270), (271, Tryz.f271), (272, Tryz.f272), (273, Tryz.f273), (274, Tryz.f274), (275, Tryz.f275), (278, Tryz.f278), (284, Tryz.f284), (285, Tryz.f285), (286, Tryz.f286), (288, Tryz.f288), (289, Tryz.f289), (290, Tryz.f290), (291, Tryz.f291), (292, Tryz.f292), (293, Tryz.f293), (294, Tryz.f294), (295, Tryz.f295), (298, Tryz.f298), (303, Tryz.f303), (304, Tryz.f304), (305, Tryz.f305), (306, Tryz.f306), (307, Tryz.f307), (308, Tryz.f308), (313, Tryz.f313), (314, Tryz.f314)]
theorem tbl_ok : ∀ p ∈ tbl, Tryz.prog.funcs[p.1]? = some p.2 ∧ (p.2.name == "runtime.NumGoroutine") = false := by
  simp only [tbl, List.forall_mem_cons]
  exact ⟨⟨Tryz.func23, by kernel_rfl⟩, ⟨Tryz.func24, by kernel_rfl⟩, ⟨Tryz.func26, by kernel_rfl⟩, ⟨Tryz.func27, by kernel_rfl⟩, ⟨Tryz.func28, by kernel_rfl⟩, ⟨Tryz.func29, by kernel_rfl⟩, ⟨Tryz.func32, by kernel_rfl⟩, ⟨Tryz.func55, by kernel_rfl⟩, ⟨Tryz.func56, by kernel_rfl⟩, ⟨Tryz.func57, by kernel_rfl⟩, ⟨Tryz.func58, by kernel_rfl⟩, ⟨Tryz.func59, by kernel_rfl⟩, ⟨Tryz.func60, by kernel_rfl⟩, ⟨Tryz.func64, by kernel_rfl⟩, ⟨Tryz.func65, by kernel_rfl⟩, ⟨Tryz.func66, by kernel_rfl⟩, ⟨Tryz.func67, by kernel_rfl⟩, ⟨Tryz.func68, by kernel_rfl⟩, ⟨Tryz.func69, by kernel_rfl⟩, ⟨Tryz.func70, by kernel_rfl⟩, ⟨Tryz.func71, by kernel_rfl⟩, ⟨Tryz.func72, by kernel_rfl⟩, ⟨Tryz.func73, by kernel_rfl⟩, ⟨Tryz.func74, by kernel_rfl⟩, ⟨Tryz.func75, by kernel_rfl⟩, ⟨Tryz.func83, by kernel_rfl⟩, ⟨Tryz.func84, by kernel_rfl⟩, ⟨Tryz.func85, by kernel_rfl⟩, ⟨Tryz.func96, by kernel_rfl⟩, ⟨Tryz.func103, by kernel_rfl⟩, ⟨Tryz.func107, by kernel_rfl⟩, ⟨Tryz.func108, by kernel_rfl⟩, ⟨Tryz.func112, by kernel_rfl⟩, ⟨Tryz.func113, by kernel_rfl⟩, ⟨Tryz.func114, by kernel_rfl⟩, ⟨Tryz.func115, by kernel_rfl⟩, ⟨Tryz.func116, by kernel_rfl⟩, ⟨Tryz.func122, by kernel_rfl⟩, ⟨Tryz.func123, by kernel_rfl⟩, ⟨Tryz.func124, by kernel_rfl⟩, ⟨Tryz.func125, by kernel_rfl⟩, ⟨Tryz.func126, by kernel_rfl⟩, ⟨Tryz.func127, by kernel_rfl⟩, ⟨Tryz.func128, by kernel_rfl⟩, ⟨Tryz.func129, by kernel_rfl⟩, ⟨Tryz.func130, by kernel_rfl⟩, ⟨Tryz.func131, by kernel_rfl⟩, ⟨Tryz.func132, by kernel_rfl⟩, ⟨Tryz.func133, by kernel_rfl⟩, ⟨Tryz.func134, by kernel_rfl⟩, ⟨Tryz.func142, by kernel_rfl⟩, ⟨Tryz.func143, by kernel_rfl⟩, ⟨Tryz.func146, by kernel_rfl⟩, ⟨Tryz.func160, by kernel_rfl⟩, ⟨Tryz.func164, by kernel_rfl⟩, ⟨Tryz.func171, by kernel_rfl⟩, ⟨Tryz.func172, by kernel_rfl⟩, ⟨Tryz.func173, by kernel_rfl⟩, ⟨Tryz.func174, by kernel_rfl⟩, ⟨Tryz.func175, by kernel_rfl⟩, ⟨Tryz.func182, by kernel_rfl⟩, ⟨Tryz.func183, by kernel_rfl⟩, ⟨Tryz.func184, by kernel_rfl⟩, ⟨Tryz.func185, by kernel_rfl⟩, ⟨Tryz.func186, by kernel_rfl⟩, ⟨Tryz.func187, by kernel_rfl⟩, ⟨Tryz.func191, by kernel_rfl⟩, ⟨Tryz.func192, by kernel_rfl⟩, ⟨Tryz.func193, by kernel_rfl⟩, ⟨Tryz.func197, by kernel_rfl⟩, ⟨Tryz.func209, by kernel_rfl⟩, ⟨Tryz.func210, by kernel_rfl⟩, ⟨Tryz.func213, by kernel_rfl⟩, ⟨Tryz.func214, by kernel_rfl⟩, ⟨Tryz.func220, by kernel_rfl⟩, ⟨Tryz.func221, by kernel_rfl⟩, ⟨Tryz.func222, by kernel_rfl⟩, ⟨Tryz.func223, by kernel_rfl⟩, ⟨Tryz.func224, by kernel_rfl⟩, ⟨Tryz.func225, by kernel_rfl⟩, ⟨Tryz.func228, by kernel_rfl⟩, ⟨Tryz.func229, by kernel_rfl⟩, ⟨Tryz.func230, by kernel_rfl⟩, ⟨Tryz.func231, by kernel_rfl⟩, ⟨Tryz.func232, by kernel_rfl⟩, ⟨Tryz.func236, by kernel_rfl⟩, ⟨Tryz.func237, by kernel_rfl⟩, ⟨Tryz.func238, by kernel_rfl⟩, ⟨Tryz.func239, by kernel_rfl⟩, ⟨Tryz.func240, by kernel_rfl⟩, ⟨Tryz.func245, by kernel_rfl⟩, ⟨Tryz.func246, by kernel_rfl⟩, ⟨Tryz.func247, by kernel_rfl⟩, ⟨Tryz.func256, by kernel_rfl⟩, ⟨Tryz.func257, by kernel_rfl⟩, ⟨Tryz.func261, by kernel_rfl⟩, ⟨Tryz.func262, by kernel_rfl⟩, ⟨Tryz.func263, by kernel_rfl⟩, ⟨Tryz.func264, by kernel_rfl⟩, ⟨Tryz.func265, by kernel_rfl⟩, ⟨Tryz.func266, by kernel_rfl⟩, ⟨Tryz.func267, by kernel_rfl⟩, ⟨Tryz.func268, by kernel_rfl⟩, ⟨Tryz.func269, by kernel_rfl⟩, ⟨Tryz.func270, by kernel_rfl⟩, ⟨Tryz.func271, by kernel_rfl⟩, ⟨Tryz.func272, by kernel_rfl⟩, ⟨Tryz.func273, by kernel_rfl⟩, ⟨Tryz.func274, by kernel_rfl⟩, ⟨Tryz.func275, by kernel_rfl⟩, ⟨Tryz.func278, by kernel_rfl⟩, ⟨Tryz.func284, by kernel_rfl⟩, ⟨Tryz.func285, by kernel_rfl⟩, ⟨Tryz.func286, by kernel_rfl⟩, ⟨Tryz.func288, by kernel_rfl⟩, ⟨Tryz.func289, by kernel_rfl⟩, ⟨Tryz.func290, by kernel_rfl⟩, ⟨Tryz.func291, by kernel_rfl⟩, ⟨Tryz.func292, by kernel_rfl⟩, ⟨Tryz.func293, by kernel_rfl⟩, ⟨Tryz.func294, by kernel_rfl⟩, ⟨Tryz.func295, by kernel_rfl⟩, ⟨Tryz.func298, by kernel_rfl⟩, ⟨Tryz.func303, by kernel_rfl⟩, ⟨Tryz.func304, by kernel_rfl⟩, ⟨Tryz.func305, by kernel_rfl⟩, ⟨Tryz.func306, by kernel_rfl⟩, ⟨Tryz.func307, by kernel_rfl⟩, ⟨Tryz.func308, by kernel_rfl⟩, ⟨Tryz.func313, by kernel_rfl⟩, ⟨Tryz.func314, by kernel_rfl⟩, by simp⟩
noncomputable def nofr : List Nat := [68, 72, 73, 74, 124, 126, 127, 129, 131, 132, 133, 182, 183, 185, 186, 187, 231, 232, 269, 270]
def natF (f : Nat) (asx : List SV) : Option D :=
  match asx with
  | [.d (.str s), .d (.int .u8 c)] => bif Nat.beq f 311 then some (.int .i64 (Go.Lib.indexByte s c.toNat.toUInt8)) else none
  | [.d (.str s), .d (.str t)] => bif Nat.beq f 312 then some (.int .i64 (Go.Lib.compareBytes s t)) else none
  | _ => none
theorem natF_ok (f : Nat) (asx : List SV) (d : D) (h : natF f asx = some d) : PSpec Tryz.prog f asx (.d d) := by
  unfold natF at h
  split at h
  · rw [TM.beq_cond] at h
    split at h
    · rename_i hf; subst hf
      simp only [Option.some.injEq] at h; subst h
      exact s311 _ _
    · cases h
  · rw [TM.beq_cond] at h
    split at h
    · rename_i hf; subst hf
      simp only [Option.some.injEq] at h; subst h
      exact s312 _ _
    · cases h
  · cases h
noncomputable def env : Env := ⟨Θ, tbF tbl, natF, fun f => (nofr ++ []).contains f⟩
theorem envOk : EnvOk Tryz.prog env := ⟨tabOk, fun f fn h => tbF_ok tbl tbl_ok f fn h, natF_ok, mix⟩
theorem ran : isD (.bool true) (xCall env 1000000 23 [] .e 0) = true := by kernel_rfl
theorem s : PSpec Tryz.prog 23 [] (.d (.bool true)) := PSpec.run envOk 1000000 (xs := []) ran
end Go.Proofs.YtmielecljgfnaaaGreat.Abs.Run23
namespace Go.Proofs.YtmielecljgfnaaaGreat.Abs
theorem s23 : PSpec Tryz.prog 23 [] (.d (.bool true)) := Run23.s
end Go.Proofs.YtmielecljgfnaaaGreat.Abs

set_option linter.unusedVariables false
set_option linter.unusedSimpArgs false
set_option maxRecDepth 10000
namespace Go.Proofs.YtmielecljgfnaaaGreat.Abs
open Go

theorem fn5 : FnOk Tryz.prog 5 20 [2] (bodyOf Tryz.f5) := ⟨Tryz.f5, Tryz.func5, by kernel_rfl, by decide, by kernel_rfl, by kernel_rfl⟩
theorem s5 (m : Mg) (ok : OkM m) (okd : ∀ e ∈ m.es, OkD e) : PSpec Tryz.prog 5 [.d (encM m)] (.d (.bool true)) := by
 refine PSpec.of fn5 (by simp) fun o nk => ?_
 refine wr ?_
 refine u_step (g_box rfl fun o2 hb2 hk2 => ?_)
 refine ua ?_
 refine u_nil ?_
 refine WP.seq fun K3 hK3 => ?_
 refine wr ?_
 refine ug th29 hb2 ?_
 refine u_step (o_pcall (s22 m ok) rfl ?_)
 refine u_nil ?_
 refine wc (fun hc5 => ?_) (fun hc5 => ?_) <;> try simp only [Q0, Q1, Q2, Q3, Q4, Q5, Q6, Q7, Q8, ge_iff_le, gt_iff_lt] at hc5
 ·
  refine wr ?_
  refine u_step (o_pcall (s23) rfl ?_)
  refine ua ?_
  refine u_nil ?_
  refine WP.ret ?_
  refine ret_ok rfl ?_ (by omega) (fun t ht => (hk2 t (by omega)))
  -- ret 1
  rfl
 ·
  refine WP.skip ?_
  refine hK3 _ ?_
  refine wd ?_
  refine d_step (o_pcall (s23) rfl ⟨rfl, rfl, rfl⟩) ?_
  refine dm ?_
  apply d_guard
  · exact GC.t _
  · intro hg
    exact pg th29 hb2
  apply d_guard
  · exact GC.t _
  · intro hg; try simp only [hg, ct]; try simp only [hg, ct, Bt]
    refine o_pcall (s24 m ok) rfl ⟨rfl, rfl, rfl⟩
  apply d_guard
  · exact GC.t _
  · intro hg
    exact pg th29 hb2
  apply d_guard
  · exact GC.t _
  · intro hg; try simp only [hg, ct]; try simp only [hg, ct, Bt]
    refine o_pcall (s25 m ok) rfl ⟨rfl, rfl, rfl⟩
  apply d_guard
  · exact GC.t _
  · intro hg; try simp only [hg, ct]; try simp only [hg, ct, Bt]
    refine o_bin_eqb rfl rfl th4 rfl ⟨rfl, rfl, rfl⟩
  refine dA ?_
  refine dm ?_
  apply d_guard
  · exact GC.t _
  · intro hg
    exact pg th29 hb2
  apply d_guard
  · exact GC.t _
  · intro hg; try simp only [hg, ct]; try simp only [hg, ct, Bt]
    refine o_pcall (s27 m ok okd) rfl ⟨rfl, rfl, rfl⟩
  apply d_guard
  · exact GC.t _
  · intro hg
    exact pg th29 hb2
  apply d_guard
  · exact GC.t _
  · intro hg; try simp only [hg, ct]; try simp only [hg, ct, Bt]
    refine o_pcall (s26 m m ok) rfl ⟨rfl, rfl, rfl⟩
  refine dA ?_
  refine da ?_
  refine d_nil ?_
  refine WP.ret ?_
  refine ret_ok rfl ?_ (by omega) (fun t ht => (hk2 t (by omega)))
  -- ret 2
  refine congrArg D.bool ?_
  simp [sameM_refl]

end Go.Proofs.YtmielecljgfnaaaGreat.Abs

/- The row's opening: what is read as data is held by values; its closing: what was read is there still. -/
set_option linter.unusedVariables false
set_option linter.unusedSimpArgs false
namespace Go.Proofs.YtmielecljgfnaaaGreat.Abs
open Go
open Go.ChangeShapes Go.WideShapes Go.ChangeAt Go.RowKit Go.WideElems

def Sof (w : World) : Nat → Prop := fun k => k < w.heap.size
/-- Values, cell by cell. -/
def RdC (w : World) (xs : List D) (cs : List Value) : Prop := cs.length = xs.length ∧ ∀ (i : Nat) (x : D) (v : Value), xs[i]? = some x → cs[i]? = some v → Rd w (Sof w) x v
def D.cl : D → List D
  | .agg xs => xs
  | x => [x]
def D.ok1 : D → Prop
  | .agg xs => xs.all D.leaf = true
  | _ => True
theorem val_of {w : World} {x : D} {cs : List Value} (h : RdC w x.cl cs) (ho : x.ok1) : ∃ v : Value, v.cells.toList = cs ∧ Rd w (Sof w) x v := by
  obtain ⟨h1, h2⟩ := h
  by_cases hx : x.leaf = true
  · have hc : x.cl = [x] := by cases x <;> first | rfl | (simp [D.leaf] at hx)
    rw [hc] at h1 h2
    match cs, h1 with
    | [v], _ =>
      have hr := h2 0 x v rfl rfl
      exact ⟨v, by rw [hr.leaf_cells hx], hr⟩
  · cases x <;> simp [D.leaf] at hx
    rename_i xs
    exact ⟨.agg cs.toArray, by simp [Value.cells], .agg xs cs ho h1 h2⟩
theorem rdC_one {w : World} {x : D} {v : Value} (h : Rd w (Sof w) x v) : RdC w [x] [v] := by
  refine ⟨rfl, fun i y u h1 h2 => ?_⟩
  match i with
  | 0 => simp at h1 h2; subst h1; subst h2; exact h
  | i + 1 => simp at h1
theorem rdC_nil {w : World} {cs : List Value} {o : Nat} (h : cs.length = o) : RdC w [] (cs.drop o) := ⟨by simp [h], fun i x v h => by simp at h⟩
theorem rdC_cat {w : World} {xs ys : List D} {cs : List Value} {o n : Nat} (h1 : RdC w xs ((cs.drop o).take n)) (hn : xs.length = n) (h2 : RdC w ys (cs.drop (o + n))) : RdC w (xs ++ ys) (cs.drop o) := by
  obtain ⟨a1, a2⟩ := h1
  obtain ⟨b1, b2⟩ := h2
  have hl : n ≤ (cs.drop o).length := by simp at a1 ⊢; omega
  have he : cs.drop o = (cs.drop o).take n ++ cs.drop (o + n) := by rw [← List.drop_drop]; exact (List.take_append_drop n _).symm
  refine ⟨by simp at b1 hl ⊢; omega, fun i x v hx hv => ?_⟩
  rcases Nat.lt_or_ge i xs.length with h | h
  · rw [List.getElem?_append_left h] at hx
    exact a2 i x v hx (by rw [List.getElem?_take, if_pos (by omega)]; exact hv)
  · rw [List.getElem?_append_right h] at hx
    refine b2 (i - xs.length) x v hx ?_
    rw [List.getElem?_drop] at hv ⊢
    rw [show o + n + (i - xs.length) = o + i by omega]; exact hv

theorem list_of {α : Type} {Q : Nat → α → Prop} : ∀ n, (∀ i, i < n → ∃ a, Q i a) → ∃ l : List α, l.length = n ∧ ∀ i a, l[i]? = some a → Q i a
  | 0, _ => ⟨[], rfl, by simp⟩
  | n + 1, h => by
    obtain ⟨l, h1, h2⟩ := list_of n fun i hi => h i (by omega)
    obtain ⟨a, ha⟩ := h n (by omega)
    refine ⟨l ++ [a], by simp [h1], fun i b hb => ?_⟩
    rcases Nat.lt_or_ge i l.length with hi | hi
    · rw [List.getElem?_append_left hi] at hb; exact h2 i b hb
    · rw [List.getElem?_append_right hi] at hb
      have : i - l.length = 0 := by
        rcases Nat.eq_zero_or_pos (i - l.length) with h' | h'
        · exact h'
        · rw [List.getElem?_eq_none (by simp; omega)] at hb; cases hb
      rw [this] at hb
      simp at hb
      subst hb
      rw [show i = n by omega]; exact ha
theorem mapM_some {α β : Type} {f : α → Option β} : ∀ {l : List α} {r : List β}, l.mapM f = some r → r.length = l.length ∧ ∀ (i : Nat) (a : α), l[i]? = some a → f a = r[i]?
  | [], r, h => by
    simp at h; subst h; exact ⟨rfl, by simp⟩
  | a :: l, r, h => by
    rw [List.mapM_cons] at h
    simp only [Option.bind_eq_bind, Option.bind_eq_some_iff, Option.pure_def, Option.some.injEq] at h
    obtain ⟨b, hb, r', hr, rfl⟩ := h
    obtain ⟨h1, h2⟩ := mapM_some hr
    refine ⟨by simp [h1], fun i x hx => ?_⟩
    match i with
    | 0 => simp at hx; subst hx; simpa using hb
    | i + 1 => simpa using h2 i x (by simpa using hx)
theorem cells_some {w : World} {b n : Nat} {a : Addr} {cs : List Value} (h : w.cells? b a n = some cs) : cs.length = n ∧ ∀ j, j < n → w.cell? (a.add j) = cs[j]? := by
  unfold World.cells? at h
  split at h
  · obtain ⟨h1, h2⟩ := mapM_some h
    rw [List.length_range] at h1
    exact ⟨h1, fun j hj => h2 j j (by rw [List.getElem?_range hj])⟩
  · cases h

section
variable {H : Type} {enc : TypeId × Value → H} {P : Program} {w : World} {base fuel : Nat} {spare : Nat → Bool} {held : Bool} {t e : TypeId} {cs : List Value} {x : DataW H × List MemPlace}

/-- Elements and their data. -/
def All2 {α : Type} (A : α → DataW H → Prop) (l : List α) (es : List (DataW H)) : Prop := l.length = es.length ∧ ∀ (i : Nat) (a : α) (y : DataW H), l[i]? = some a → es[i]? = some y → A a y
def SlD {α : Type} (A : α → DataW H → Prop) (l : List α) (d : DataW H) : Prop := (d = .nil ∧ l = []) ∨ ∃ es sp, d = .slice es sp ∧ All2 A l es

theorem rd_slice {α : Type} {z : Nat} (encA : α → D) (A : α → DataW H → Prop) (hu : P.underlying t = some (.slice e)) (hz : P.cellsOf e = z) (hz0 : 0 < z) (hzA : ∀ a, (encA a).cl.length = z) (hok : ∀ a, (encA a).ok1)
    (h : DataW.trod enc P w base spare held fuel t cs = some x)
    (he : ∀ n cs x, n < fuel → DataW.trod enc P w base spare held n e cs = some x → ∃ a, RdC w (encA a).cl cs ∧ A a x.1) :
    ∃ l : List α, RdC w [.sl z (l.map encA)] cs ∧ SlD A l x.1 := by
  rcases DataW.trod_slice hu h with ⟨rfl, rfl⟩ | ⟨a, len, cap, elems, rest, n, hf, rfl, rfl, hb, hlc, hcm, hlen, hel, _⟩
  · exact ⟨[], rdC_one (.emp _ _ _ (by omega)), .inl ⟨rfl, rfl⟩⟩
  · rw [hz] at hel
    have key : ∀ i, i < len → ∃ p : α × Value, (∃ cs', w.cells? base (a.add (i * z)) z = some cs' ∧ p.2.cells.toList = cs') ∧ Rd w (Sof w) (encA p.1) p.2 ∧ ∀ y, elems[i]? = some y → A p.1 y.1 := by
      intro i hi
      have h1 := hel i hi
      rw [List.getElem?_eq_getElem (by omega)] at h1
      obtain ⟨cs', h2, h3⟩ := Option.bind_eq_some_iff.1 h1
      obtain ⟨b, h4, h5⟩ := he n cs' _ (by omega) h3
      obtain ⟨v, h6, h7⟩ := val_of h4 (hok b)
      refine ⟨(b, v), ⟨cs', h2, h6⟩, h7, fun y hy => ?_⟩
      rw [List.getElem?_eq_getElem (by omega)] at hy
      injection hy with hy
      rw [← hy]; exact h5
    obtain ⟨l, hl1, hl2⟩ := list_of len key
    refine ⟨l.map (·.1), ?_, .inr ⟨_, _, rfl, by simp [hl1, hlen], fun i b y hb' hy => ?_⟩⟩
    · refine rdC_one ?_
      rcases Nat.eq_zero_or_pos len with h0 | h0
      · have : l = [] := List.eq_nil_of_length_eq_zero (by omega)
        subst this
        subst h0
        exact .emp _ _ _ (by simpa [maxLen] using hcm)
      · have hS : Sof w a.block := by
          obtain ⟨p, ⟨cs', h1, _⟩, _⟩ := key 0 h0
          obtain ⟨h2, h3⟩ := cells_some h1
          have h4 := h3 0 hz0
          rw [List.getElem?_eq_getElem (by omega)] at h4
          have := World.block_lt_of_cell? w _ h4
          rwa [add_block, add_block] at this
        have hlm : ((l.map (·.1)).map encA).length = len := by simp [hl1]
        rw [← hlm]
        refine .sl z _ a cap (l.map (·.2)) (by omega) (by simpa [maxLen] using hcm) hS (by simp [hl1]) (fun i y v hy hv => ?_) (fun i v hv => ?_) (fun i j v u hv hu' => ?_)
        · rw [List.getElem?_map, List.getElem?_map] at hy
          rw [List.getElem?_map] at hv
          cases hp : l[i]? with
          | none => rw [hp] at hv; cases hv
          | some p =>
            rw [hp] at hy hv
            simp at hy hv
            subst hy; subst hv
            exact (hl2 i p hp).2.1
        · rw [List.getElem?_map] at hv
          obtain ⟨p, hp, rfl⟩ := Option.map_eq_some_iff.1 hv
          obtain ⟨⟨cs', h1, h2⟩, _, _⟩ := hl2 i p hp
          have := (cells_some h1).1
          rw [← h2] at this
          simpa using this
        · rw [List.getElem?_map] at hv
          obtain ⟨p, hp, rfl⟩ := Option.map_eq_some_iff.1 hv
          obtain ⟨⟨cs', h1, h2⟩, _, _⟩ := hl2 i p hp
          obtain ⟨h3, h4⟩ := cells_some h1
          have hj : j < p.2.cells.size := (Array.getElem?_eq_some_iff.1 hu').1
          have hjz : j < z := by
            rw [← h2] at h3
            simp at h3
            omega
          have h5 := h4 j hjz
          rw [Addr_add_add] at h5
          rw [h5, ← h2]
          simpa using hu'
    · rw [List.getElem?_map] at hb' hy
      obtain ⟨p, hp, rfl⟩ := Option.map_eq_some_iff.1 hb'
      obtain ⟨q, hq, rfl⟩ := Option.map_eq_some_iff.1 hy
      exact (hl2 i p hp).2.2 q hq

theorem rd_int {k : IntKind} (hu : P.underlying t = some (.int k)) (h : DataW.trod enc P w base spare held fuel t cs = some x) : ∃ n, RdC w [.int k n] cs ∧ x.1 = .lit (.int k n) ∧ (Lit.int k n).wf = true := by
  obtain ⟨n, rfl, rfl, hw⟩ := DataW.trod_int hu h
  exact ⟨n, rdC_one (.int _ _), rfl, hw⟩
theorem rd_bool (hu : P.underlying t = some .bool) (h : DataW.trod enc P w base spare held fuel t cs = some x) : ∃ b, RdC w [.bool b] cs ∧ x.1 = .lit (.bool b) := by
  obtain ⟨b, rfl, rfl⟩ := DataW.trod_bool hu h
  exact ⟨b, rdC_one (.bool _), rfl⟩
theorem rd_str (hu : P.underlying t = some .string) (h : DataW.trod enc P w base spare held fuel t cs = some x) : ∃ s : List UInt8, RdC w [.str s] cs ∧ x.1 = .lit (.string s) := by
  obtain ⟨s, rfl, rfl, hs⟩ := DataW.trod_string hu h
  refine ⟨s.data.toList, rdC_one ?_, rfl⟩
  have he : (⟨s.data.toList.toArray⟩ : ByteArray) = s := by
    apply ByteArray.ext
    simp
  have := Rd.str (w := w) (S := Sof w) s.data.toList (by
    have hl : s.data.toList.length = s.size := by rw [Array.length_toList]; rfl
    unfold maxLen at hs; omega)
  rwa [he] at this
/-- A struct's fields. -/
theorem rd_struct {i : TI} {fs : List (Nat × Nat)} (hT : TOk P t i) (hk : i.k = .struct fs) (h : DataW.trod enc P w base spare held fuel t cs = some x) :
    ∃ (xs : List (DataW H × List MemPlace)) (n : Nat), n < fuel ∧ x.1 = .agg (xs.map (·.1)) ∧ cs.length = P.cellsOf t ∧ xs.length = fs.length ∧
      ∀ (i : Nat) (f : Nat × Nat), fs[i]? = some f → DataW.trod enc P w base spare held n f.2 ((cs.drop f.1).take (P.cellsOf f.2)) = xs[i]? := by
  obtain ⟨F, hF, rfl, _⟩ := hT.struct hk
  obtain ⟨xs, n, hf, hx, hl, hlen, hfs⟩ := DataW.trod_struct hF h
  refine ⟨xs, n, by omega, by rw [hx], hl, by simp [hlen], fun j f hj => ?_⟩
  rw [List.getElem?_map] at hj
  obtain ⟨g, hg, rfl⟩ := Option.map_eq_some_iff.1 hj
  exact hfs j g (by simpa using hg)
theorem wf_i64 {n : Int} (h : (Lit.int .i64 n).wf = true) : -9223372036854775808 ≤ n ∧ n ≤ 9223372036854775807 := bounds_i64 h
theorem wf_u8 {n : Int} (h : (Lit.int .u8 n).wf = true) : 0 ≤ n ∧ n ≤ 255 := bounds_u8 h
end

theorem rdv_struct {P : Program} {w W : World} {r : Reach} {base : Nat} {t : TypeId} {i : TI} {fs : List (Nat × Nat)} {x : D} {v : Value} (h : Value.okWide P W r base t v) (hT : TOk P t i) (hk : i.k = .struct fs) (hc : RdC w x.cl v.cells.toList) (hl : x = .agg x.cl) (ho : x.ok1) : Rd w (Sof w) x v := by
  obtain ⟨F, hF, _, _⟩ := hT.struct hk
  unfold Value.okWide at h
  rw [hF] at h
  obtain ⟨cs, rfl, _, _⟩ := h
  rw [hl] at hc ho ⊢
  have : cs = cs.toList.toArray := by simp
  rw [this]
  exact .agg _ _ ho (by simpa [Value.cells, D.cl] using hc.1) (fun j y u h1 h2 => hc.2 j y u (by simpa [D.cl] using h1) (by simpa [Value.cells] using h2))
/-! ### the close -/
section
variable {H : Type} {enc : TypeId × Value → H} {P : Program}
theorem post_of_below {f : Func} {s : ChangeSpec} {apart fresh handsOn again : Bool} {W W' : World} {args : Array Value} {v : Value} {ds gs : List (DataW H)} {before pa pv : List MemPlace}
    (hW : DataW.Whole enc P f.params.toList s.vars apart W args.toList ds gs before)
    (hres : ∀ (b : Nat) (sp : Nat → Bool) (hd : Bool), DataW.TrodAll enc P W' b sp hd f.resultTypes.toList (v.resultList f.resultTypes.size) (s.fn H (ds ++ gs)).results [])
    (hargs : ∀ sp : Nat → Bool, (∀ p ∈ before, sp p.block = true) → DataW.TrodAll enc P W' 0 sp true f.params.toList args.toList (s.fn H (ds ++ gs)).args pa)
    (hvars : ∀ sp : Nat → Bool, (∀ p ∈ before, sp p.block = true) → DataW.TrodVars enc P W' sp s.vars (s.fn H (ds ++ gs)).vars pv)
    (hps : before = pa ++ pv) (hb : Below W.heap.size W W')
    (hok : ∀ (j : Nat) (t : TypeId) (r : Value), f.resultTypes[j]? = some t → (v.resultList f.resultTypes.size)[j]? = some r → Value.okWide P W' .any 0 t r) :
    s.post enc P f apart fresh handsOn again W args v W' := by
  have hlt : ∀ p ∈ before, p.block < W.heap.size := fun p hp => hW.lt p hp
  have hold : ∀ p ∈ before, (fun b => decide (b < W.heap.size)) p.block = true := fun p hp => by simpa using hlt p hp
  refine ⟨ds, gs, before, [], pa, pv, hW, hres _ _ _, hargs _ hold, hvars _ hold, World.keptBut_mono (fun p hp => ⟨hp, ?_⟩) (hb.frame (· ∈ before)), fun _ => ?_⟩
  · rw [hps, List.mem_append] at hp
    exact Or.inr hp
  · obtain ⟨_, _, _, _, _, hz, hn⟩ := hW
    refine ⟨hok, _, _, ([] ++ pa) ++ pv, ⟨[] ++ pa, pv, trodAll_append (hargs _ (fun _ _ => rfl)) (hres _ _ _), hvars _ (fun _ _ => rfl), rfl, ?_, ?_⟩, ?_⟩
    · intro b off hp
      have hin : MemPlace.cell b off ∈ before := by rw [hps]; simpa using hp
      rw [hb.frozen (hlt _ hin)]
      exact hz b off hin
    · intro ha
      have := hn ha
      rw [hps] at this
      simpa using this
    · intro p hp _
      rw [hps]
      simpa using hp
theorem trodAll_stays (hl : laidOutB P = true) {W W' : World} (hb : Below W.heap.size W W') : ∀ {ts : List TypeId} {vs : List Value} {ds : List (DataW H)} {ps : List MemPlace} {sp : Nat → Bool}, (ts.all fun t => P.readableRec t && decide (t < P.types.size)) = true →
    DataW.TrodAll enc P W 0 (fun _ => true) true ts vs ds ps → (∀ p ∈ ps, sp p.block = true) → (∀ p ∈ ps, p.block < W.heap.size) → DataW.TrodAll enc P W' 0 sp true ts vs ds ps
  | [], vs, ds, ps, sp, _, h, _, _ => by
    obtain ⟨rfl, rfl, rfl⟩ := trodAll_nil h
    rfl
  | t :: ts, vs, ds, ps, sp, ht, h, hs, hlt => by
    obtain ⟨v, vs', d, ds', p, q, rfl, rfl, rfl, h1, h2⟩ := trodAll_cons h
    simp only [List.all_cons, Bool.and_eq_true, decide_eq_true_eq] at ht
    exact trodAll_cons_mk (Trod_stays hl ht.1.1 ht.1.2 h1 (fun x hx => hb.same (hlt x (by simp [hx]))) fun x hx => hs x (by simp [hx])) (trodAll_stays hl hb ht.2 h2 (fun x hx => hs x (by simp [hx])) fun x hx => hlt x (by simp [hx]))
/-- A law that answers yes, called. -/
theorem calls_of_spec {f : FuncId} {fn : Func} {W : World} {vs : List Value} {ds : List D} (hfn : P.funcs[f]? = some fn) (hbody : fn.body.isSome = true) (hname : (fn.name == "runtime.NumGoroutine") = false) (h : PSpec P f (ds.map .d) (.d (.bool true))) (hr : vs.length = ds.length ∧ ∀ (i : Nat) (x : D) (v : Value), ds[i]? = some x → vs[i]? = some v → Rd W (Sof W) x v) :
    Calls P f vs.toArray W fun e W' => e = .returned (.bool true) ∧ Below W.heap.size W W' := by
  have hsto : Sto W (Sof W) (fun _ => undef) (fun _ => none) 0 := ⟨fun k hk => hk, by simp, by simp, by simp, by simp, by simp, by simp⟩
  have hd := h (fun _ => none) 0 W (Sof W) (fun _ => undef) vs hsto (by simp [hr.1]) (fun i c v hc hv => by
    rw [List.getElem?_map] at hc
    obtain ⟨x, hx, rfl⟩ := Option.map_eq_some_iff.1 hc
    exact .d _ _ (hr.2 i x v hx hv)) (lts_of fun i c hc => by
      rw [List.getElem?_map] at hc
      obtain ⟨x, hx, rfl⟩ := Option.map_eq_some_iff.1 hc
      trivial)
  obtain ⟨b, hb⟩ := Option.isSome_iff_exists.1 hbody
  have hcf : (callFunc f vs.toArray).run P W = .ok (.enter f vs.toArray) W := by
    simp only [beq_eq_false_iff_ne, ne_eq] at hname
    simp [callFunc, hfn, hb, hname]
  unfold Does at hd
  rw [hcf] at hd
  refine hd.mono ?_
  rintro e W' ⟨v, rfl, r, o', nk', S', γ', ⟨rfl, rfl, rfl⟩, hs, ht, hsr, hl⟩
  refine ⟨?_, ht.os, ht.tape, ht.output, ht.size, fun k hk => ht.kept k hk ?_⟩
  · cases hsr with
    | d _ _ hrd => cases hrd; rfl
  · rintro ⟨t, y, hy, _⟩
    cases hy
end
end Go.Proofs.YtmielecljgfnaaaGreat.Abs

set_option linter.unusedVariables false
set_option linter.unusedSimpArgs false
set_option maxRecDepth 10000
namespace Go.Proofs.YtmielecljgfnaaaGreat.Abs
open Go
section
variable {H : Type} {enc : TypeId × Value → H} {w : World} {base fuel : Nat} {spare : Nat → Bool} {held : Bool} {cs : List Value} {x : DataW H × List MemPlace}
theorem cells_of {P : Program} {t : TypeId} {i : TI} (h : TOk P t i) : P.cellsOf t = i.sz := by
  have := h.s
  unfold Program.cellsOf
  cases hq : P.info? t with
  | none => rw [hq] at this; cases this
  | some q => rw [hq] at this; simp at this; simp [this.1]
def AStr (s : Str) (d : DataW H) : Prop := d = .lit (.string s)
def AVal (v : Val) (d : DataW H) : Prop := rngV v ∧ szV v ≤ Rows.uptoBulk d
def ADlt (v : Dlt) (d : DataW H) : Prop := rngV v.value ∧ szV v.value + szN v.path ≤ Rows.uptoBulk d
theorem all2_cons {α : Type} {A : α → DataW H → Prop} {a : α} {l : List α} {es : List (DataW H)} (h : All2 A (a :: l) es) : ∃ y ys, es = y :: ys ∧ A a y ∧ All2 A l ys := by
  obtain ⟨h1, h2⟩ := h
  cases es with
  | nil => simp at h1
  | cons y ys => exact ⟨y, ys, rfl, h2 0 a y rfl rfl, by simpa using h1, fun i b z hb hz => h2 (i + 1) b z (by simpa using hb) (by simpa using hz)⟩
theorem szN_bulk : ∀ {l : List Str} {es : List (DataW H)}, All2 AStr l es → szN l ≤ Rows.uptoBulkAll es
  | [], es, _ => by simp [szN]
  | s :: l, es, h => by
    obtain ⟨y, ys, rfl, h1, h2⟩ := all2_cons h
    have := szN_bulk h2
    unfold AStr at h1
    subst h1
    simp only [szN, Rows.uptoBulkAll, Rows.uptoBulk]; omega
theorem szVs_bulk : ∀ {l : List Val} {es : List (DataW H)}, All2 AVal l es → rngVs l ∧ szVs l ≤ Rows.uptoBulkAll es
  | [], es, _ => by simp [szVs, rngVs]
  | s :: l, es, h => by
    obtain ⟨y, ys, rfl, h1, h2⟩ := all2_cons h
    have := szVs_bulk h2
    simp only [szVs, rngVs, Rows.uptoBulkAll]
    exact ⟨⟨h1.1, this.1⟩, by have := h1.2; omega⟩
theorem bulk_sl {α : Type} {A : α → DataW H → Prop} {l : List α} {d : DataW H} {n : Nat} (h : SlD A l d) (h0 : l = [] → n = 0) (h1 : ∀ es, All2 A l es → n ≤ Rows.uptoBulkAll es) : n + 1 ≤ Rows.uptoBulk d := by
  rcases h with ⟨rfl, h⟩ | ⟨es, sp, rfl, h⟩
  · have := h0 h
    simp [Rows.uptoBulk, this]
  · have := h1 es h
    simp only [Rows.uptoBulk]; omega
theorem one_le (d : DataW H) : 1 ≤ Rows.uptoBulk d := by
  cases d with
  | lit l => cases l <;> simp [Rows.uptoBulk]
  | nil => simp [Rows.uptoBulk]
  | ptr d => simp [Rows.uptoBulk]
  | slice elems spare => simp [Rows.uptoBulk]
  | agg parts => simp [Rows.uptoBulk]
  | iface t d => simp [Rows.uptoBulk]
  | map entries => simp [Rows.uptoBulk]
  | held h => simp [Rows.uptoBulk]
theorem mem_bulk {d : DataW H} {l : List (DataW H)} (h : d ∈ l) : Rows.uptoBulk d ≤ Rows.uptoBulkAll l := by
  induction l with
  | nil => cases h
  | cons x r ih =>
    simp only [Rows.uptoBulkAll]
    cases List.mem_cons.1 h with
    | inl e => subst e; omega
    | inr e => have := ih e; omega

theorem open_strs (h : DataW.trod enc Tryz.prog w base spare held fuel 60 cs = some x) : ∃ l : List Str, RdC w [.sl 1 (l.map .str)] cs ∧ SlD AStr l x.1 :=
  rd_slice (z := 1) D.str AStr ((tabOk 60 _ th60).slice rfl) (cells_of (tabOk 9 _ th9)) (by decide) (fun _ => rfl) (fun _ => trivial) h fun n cs x _ h => by
    obtain ⟨s, h1, h2⟩ := rd_str ((tabOk 9 _ th9).str rfl) h
    exact ⟨s, h1, h2⟩
theorem open_val : ∀ (fuel : Nat) (cs : List Value) (x : DataW H × List MemPlace), DataW.trod enc Tryz.prog w base spare held fuel 69 cs = some x → ∃ v : Val, RdC w (valCells v) cs ∧ AVal v x.1 := by
  intro fuel
  induction fuel using Nat.strongRecOn with
  | _ fuel ih =>
    intro cs x h
    obtain ⟨ys, n, hn, hx, hl, hyl, hf⟩ := rd_struct (tabOk 69 _ th69) rfl h
    match ys, hyl with
    | [y0, y1, y2, y3, y4], _ =>
      have c1 := cells_of (tabOk 3 _ th3)
      have c9 := cells_of (tabOk 9 _ th9)
      have c25 := cells_of (tabOk 67 _ th67)
      have c22 := cells_of (tabOk 60 _ th60)
      have c27 := cells_of (tabOk 69 _ th69)
      have f0 := hf 0 (0, 3) rfl
      have f1 := hf 1 (1, 3) rfl
      have f2 := hf 2 (2, 9) rfl
      have f3 := hf 3 (3, 67) rfl
      have f4 := hf 4 (4, 60) rfl
      rw [c1] at f0 f1
      rw [c9] at f2
      rw [c25] at f3
      rw [c22] at f4
      rw [c27] at hl
      obtain ⟨k, k1, k2, k3⟩ := rd_int ((tabOk 3 _ th3).int rfl) (x := y0) f0
      obtain ⟨i, i1, i2, i3⟩ := rd_int ((tabOk 3 _ th3).int rfl) (x := y1) f1
      obtain ⟨s, s1, s2⟩ := rd_str ((tabOk 9 _ th9).str rfl) (x := y2) f2
      obtain ⟨vs, v1, v2⟩ := rd_slice (z := 5) encV AVal ((tabOk 67 _ th67).slice rfl) c27 (by decide) (fun a => by rw [encV_eq]; rfl) (fun a => by rw [encV_eq]; rfl) (x := y3) f3 fun m cs x hm h => by
        obtain ⟨v, h1, h2⟩ := ih m (by omega) cs x h
        exact ⟨v, by rw [encV_eq]; exact h1, h2⟩
      obtain ⟨ns, n1, n2⟩ := open_strs (x := y4) f4
      refine ⟨.mk k i s vs ns, ?_, ?_⟩
      · have := rdC_cat (cs := cs) (o := 0) (n := 1) k1 rfl (rdC_cat (n := 1) i1 rfl (rdC_cat (n := 1) s1 rfl (rdC_cat (n := 1) v1 rfl (rdC_cat (n := 1) n1 rfl (rdC_nil hl)))))
        simpa [valCells, Val.kind, Val.int, Val.text, Val.items, Val.names, encVs_map] using this
      · have b3 : rngVs vs ∧ szVs vs + 1 ≤ Rows.uptoBulk y3.1 := by
          refine ⟨?_, bulk_sl v2 (fun h => by rw [h]; rfl) fun es h => (szVs_bulk h).2⟩
          rcases v2 with ⟨_, rfl⟩ | ⟨es, sp, _, h⟩
          · trivial
          · exact (szVs_bulk h).1
        have b4 := bulk_sl n2 (n := szN ns) (fun h => by rw [h]; rfl) fun es h => szN_bulk h
        refine ⟨⟨wf_i64 i3, b3.1⟩, ?_⟩
        rw [hx]
        simp only [List.map_cons, List.map_nil, Rows.uptoBulk, Rows.uptoBulkAll, k2, i2, s2, szV]
        omega
theorem open_dlt (h : DataW.trod enc Tryz.prog w base spare held fuel 183 cs = some x) : ∃ d : Dlt, RdC w (encD d).cl cs ∧ ADlt d x.1 := by
  obtain ⟨ys, n, hn, hx, hl, hyl, hf⟩ := rd_struct (tabOk 183 _ th183) rfl h
  match ys, hyl with
  | [y0, y1, y2, y3], _ =>
    have f0 := hf 0 (0, 3) rfl
    have f1 := hf 1 (1, 60) rfl
    have f2 := hf 2 (2, 69) rfl
    have f3 := hf 3 (7, 3) rfl
    rw [cells_of (tabOk 3 _ th3)] at f0 f3
    rw [cells_of (tabOk 60 _ th60)] at f1
    rw [cells_of (tabOk 69 _ th69)] at f2
    rw [cells_of (tabOk 183 _ th183)] at hl
    obtain ⟨k, k1, k2, k3⟩ := rd_int ((tabOk 3 _ th3).int rfl) (x := y0) f0
    obtain ⟨p, p1, p2⟩ := open_strs (x := y1) f1
    obtain ⟨v, v1, v2⟩ := open_val n _ y2 f2
    obtain ⟨m, m1, m2, m3⟩ := rd_int ((tabOk 3 _ th3).int rfl) (x := y3) f3
    refine ⟨⟨k, p, v, m⟩, ?_, v2.1, ?_⟩
    · have := rdC_cat (cs := cs) (o := 0) (n := 1) k1 rfl (rdC_cat (n := 1) p1 rfl (rdC_cat (n := 5) v1 rfl (rdC_cat (n := 1) m1 rfl (rdC_nil hl))))
      simpa [encD, D.cl, valCells] using this
    · have b1 := bulk_sl p2 (n := szN p) (fun h => by rw [h]; rfl) fun es h => szN_bulk h
      have b2 := v2.2
      rw [hx]
      simp only [List.map_cons, List.map_nil, Rows.uptoBulk, Rows.uptoBulkAll, k2, m2]
      omega
theorem open_dlts (h : DataW.trod enc Tryz.prog w base spare held fuel 70 cs = some x) : ∃ l : List Dlt, RdC w [.sl 8 (l.map encD)] cs ∧ SlD ADlt l x.1 :=
  rd_slice (z := 8) encD ADlt ((tabOk 70 _ th70).slice rfl) (cells_of (tabOk 183 _ th183)) (by decide) (fun _ => rfl) (fun _ => rfl) h fun n cs x _ h => open_dlt h
/-- What a list of changes holds. -/
def szDs : List Dlt → Nat
  | [] => 0
  | d :: r => szV d.value + szN d.path + szDs r
theorem szDs_bulk : ∀ {l : List Dlt} {es : List (DataW H)}, All2 ADlt l es → szDs l ≤ Rows.uptoBulkAll es ∧ ∀ d ∈ l, rngV d.value
  | [], es, _ => by simp [szDs]
  | s :: l, es, h => by
    obtain ⟨y, ys, rfl, h1, h2⟩ := all2_cons h
    have := szDs_bulk h2
    simp only [szDs, Rows.uptoBulkAll]
    refine ⟨by have := h1.2; omega, fun d hd => ?_⟩
    rcases List.mem_cons.1 hd with rfl | hd
    · exact h1.1
    · exact this.2 d hd
theorem szDs_mem {l : List Dlt} {d : Dlt} (h : d ∈ l) : szV d.value + szN d.path ≤ szDs l := by
  induction l with
  | nil => cases h
  | cons a l ih =>
    simp only [szDs]
    rcases List.mem_cons.1 h with rfl | h
    · omega
    · have := ih h; omega
theorem dlts_all {l : List Dlt} {d : DataW H} (h : SlD ADlt l d) : szDs l + 1 ≤ Rows.uptoBulk d ∧ ∀ x ∈ l, rngV x.value := by
  refine ⟨bulk_sl h (fun h => by rw [h]; rfl) fun es h => (szDs_bulk h).1, ?_⟩
  rcases h with ⟨_, rfl⟩ | ⟨es, sp, _, h⟩
  · simp
  · exact (szDs_bulk h).2
def I64 (n : Int) : Prop := -9223372036854775808 ≤ n ∧ n ≤ 9223372036854775807
structure AEtr (e : Etr) (d : DataW H) : Prop where
  rt : I64 e.term
  rk : I64 e.kind
  rs : I64 e.session
  rn : I64 e.number
  ri : rngV e.id
  rd : rngV e.doc
  rl : ∀ x ∈ e.deltas, rngV x.value
  sz : szV e.id + szV e.doc + szDs e.deltas + e.coll.length + e.to.length + 1 ≤ Rows.uptoBulk d
theorem encE_cl (e : Etr) : (encE e).cl = [.int .i64 e.term, .int .i64 e.kind, .str e.coll, .str e.to] ++ valCells e.id ++ valCells e.doc ++ [.sl 8 (e.deltas.map encD), .int .i64 e.session, .int .i64 e.number] := rfl
theorem open_etr (h : DataW.trod enc Tryz.prog w base spare held fuel 72 cs = some x) : ∃ e : Etr, RdC w (encE e).cl cs ∧ AEtr e x.1 := by
  obtain ⟨ys, n, hn, hx, hl, hyl, hf⟩ := rd_struct (tabOk 72 _ th72) rfl h
  match ys, hyl with
  | [y0, y1, y2, y3, y4, y5, y6, y7, y8], _ =>
    have f0 := hf 0 (0, 3) rfl
    have f1 := hf 1 (1, 3) rfl
    have f2 := hf 2 (2, 9) rfl
    have f3 := hf 3 (3, 9) rfl
    have f4 := hf 4 (4, 69) rfl
    have f5 := hf 5 (9, 69) rfl
    have f6 := hf 6 (14, 70) rfl
    have f7 := hf 7 (15, 3) rfl
    have f8 := hf 8 (16, 3) rfl
    rw [cells_of (tabOk 3 _ th3)] at f0 f1 f7 f8
    rw [cells_of (tabOk 9 _ th9)] at f2 f3
    rw [cells_of (tabOk 69 _ th69)] at f4 f5
    rw [cells_of (tabOk 70 _ th70)] at f6
    rw [cells_of (tabOk 72 _ th72)] at hl
    obtain ⟨a, a1, a2, a3⟩ := rd_int ((tabOk 3 _ th3).int rfl) (x := y0) f0
    obtain ⟨b, b1, b2, b3⟩ := rd_int ((tabOk 3 _ th3).int rfl) (x := y1) f1
    obtain ⟨c, c1, c2⟩ := rd_str ((tabOk 9 _ th9).str rfl) (x := y2) f2
    obtain ⟨t, t1, t2⟩ := rd_str ((tabOk 9 _ th9).str rfl) (x := y3) f3
    obtain ⟨i, i1, i2⟩ := open_val n _ y4 f4
    obtain ⟨d, d1, d2⟩ := open_val n _ y5 f5
    obtain ⟨l, l1, l2⟩ := open_dlts (x := y6) f6
    obtain ⟨s, s1, s2, s3⟩ := rd_int ((tabOk 3 _ th3).int rfl) (x := y7) f7
    obtain ⟨m, m1, m2, m3⟩ := rd_int ((tabOk 3 _ th3).int rfl) (x := y8) f8
    have hl2 := dlts_all l2
    refine ⟨⟨a, b, c, t, i, d, l, s, m⟩, ?_, ⟨wf_i64 a3, wf_i64 b3, wf_i64 s3, wf_i64 m3, i2.1, d2.1, hl2.2, ?_⟩⟩
    · have := rdC_cat (cs := cs) (o := 0) (n := 1) a1 rfl (rdC_cat (n := 1) b1 rfl (rdC_cat (n := 1) c1 rfl (rdC_cat (n := 1) t1 rfl (rdC_cat (n := 5) i1 rfl (rdC_cat (n := 5) d1 rfl (rdC_cat (n := 1) l1 rfl (rdC_cat (n := 1) s1 rfl (rdC_cat (n := 1) m1 rfl (rdC_nil hl)))))))))
      simpa [encE_cl] using this
    · rw [hx]
      have e1 := i2.2
      have e2 := d2.2
      simp only [List.map_cons, List.map_nil, Rows.uptoBulk, Rows.uptoBulkAll, a2, b2, c2, t2, s2, m2]
      omega
structure AFlt (f : Flt) (d : DataW H) : Prop where
  rk : I64 f.kinds
  sz : f.coll.length + szN f.path ≤ Rows.uptoBulk d
theorem okE_of {e : Etr} {d : DataW H} (h : AEtr e d) (hb : Rows.uptoBulk d ≤ 1048576) : OkE e := by
  have hs := h.sz
  refine ⟨h.ri, by omega, h.rd, by omega, fun _ x hx => ⟨h.rl x hx, ?_⟩⟩
  have := szDs_mem hx
  omega
theorem okEd_of {e : Etr} {d : DataW H} (h : AEtr e d) (hb : Rows.uptoBulk d ≤ 1048576) : ∀ x ∈ e.deltas, szV x.value ≤ 1099511627776 := fun x hx => by
  have hs := h.sz
  have := szDs_mem hx
  omega
end
end Go.Proofs.YtmielecljgfnaaaGreat.Abs

set_option linter.unusedVariables false
set_option linter.unusedSimpArgs false
set_option maxRecDepth 10000
namespace Go.Proofs.YtmielecljgfnaaaGreat.Abs
open Go
section
variable {H : Type} {enc : TypeId × Value → H} {w : World} {base fuel : Nat} {spare : Nat → Bool} {held : Bool} {cs : List Value} {x : DataW H × List MemPlace}
theorem sl_memM {H : Type} {α : Type} {A : α → DataW H → Prop} {l : List α} {d : DataW H} (h : SlD A l d) {a : α} (ha : a ∈ l) : ∃ y, A a y ∧ Rows.uptoBulk y ≤ Rows.uptoBulk d := by
  rcases h with ⟨_, rfl⟩ | ⟨es, sp, rfl, h⟩
  · cases ha
  · obtain ⟨i, hi, rfl⟩ := List.getElem_of_mem ha
    have hlt : i < es.length := by rw [← h.1]; exact hi
    refine ⟨es[i], h.2 i _ _ (List.getElem?_eq_getElem hi) (List.getElem?_eq_getElem hlt), ?_⟩
    have := mem_bulk (List.getElem_mem hlt)
    simp only [Rows.uptoBulk]; omega
theorem len_bulkM : ∀ l : List (DataW H), l.length ≤ Rows.uptoBulkAll l
  | [] => by simp
  | d :: l => by
    have := len_bulkM l
    have := one_le d
    simp only [Rows.uptoBulkAll, List.length_cons]; omega
theorem sl_lenM {α : Type} {A : α → DataW H → Prop} {l : List α} {d : DataW H} (h : SlD A l d) : l.length ≤ Rows.uptoBulk d := by
  rcases h with ⟨_, rfl⟩ | ⟨es, sp, rfl, h⟩
  · simp
  · have := len_bulkM es
    rw [h.1]
    simp only [Rows.uptoBulk]; omega
def AU (b : UInt8) (d : DataW H) : Prop := True
theorem open_bytes (h : DataW.trod enc Tryz.prog w base spare held fuel 27 cs = some x) : ∃ l : List UInt8, RdC w [.sl 1 (l.map encU)] cs ∧ SlD AU l x.1 :=
  rd_slice (z := 1) encU AU ((tabOk 27 _ th27).slice rfl) (cells_of (tabOk 5 _ th5)) (by decide) (fun _ => rfl) (fun _ => trivial) h fun n cs x _ h => by
    obtain ⟨k, k1, k2, k3⟩ := rd_int ((tabOk 5 _ th5).int rfl) h
    obtain ⟨h0, h1⟩ := wf_u8 k3
    refine ⟨UInt8.ofNat k.toNat, ?_, trivial⟩
    have e : encU (UInt8.ofNat k.toNat) = .int .u8 k := by
      unfold encU
      congr 1
      simp
      omega
    rw [e]; exact k1
theorem open_etrsM (h : DataW.trod enc Tryz.prog w base spare held fuel 26 cs = some x) : ∃ l : List Etr, RdC w [.sl 17 (l.map encE)] cs ∧ SlD AEtr l x.1 :=
  rd_slice (z := 17) encE AEtr ((tabOk 26 _ th26).slice rfl) (cells_of (tabOk 72 _ th72)) (by decide) (fun _ => rfl) (fun _ => rfl) h fun n cs x _ h => open_etr h
structure AMg (m : Mg) (d : DataW H) : Prop where
  e : ∀ e ∈ m.es, ∃ y : DataW H, AEtr e y ∧ Rows.uptoBulk y ≤ Rows.uptoBulk d
  n : m.es.length ≤ Rows.uptoBulk d
  b : m.data.length ≤ Rows.uptoBulk d
theorem encM_cl (m : Mg) : (encM m).cl = [.int .i64 m.kind, .int .i64 m.fr, .int .i64 m.to, .int .i64 m.term, .int .i64 m.n1, .int .i64 m.n2, .int .i64 m.n3, .int .i64 m.n4, .bool m.fl, .sl 17 (m.es.map encE), .sl 1 (m.data.map encU)] := rfl
theorem open_msg (h : DataW.trod enc Tryz.prog w base spare held fuel 29 cs = some x) : ∃ m : Mg, RdC w (encM m).cl cs ∧ AMg m x.1 := by
  obtain ⟨ys, n, hn, hx, hl, hyl, hf⟩ := rd_struct (tabOk 29 _ th29) rfl h
  match ys, hyl with
  | [y0, y1, y2, y3, y4, y5, y6, y7, y8, y9, y10], _ =>
    have f0 := hf 0 (0, 3) rfl
    have f1 := hf 1 (1, 3) rfl
    have f2 := hf 2 (2, 3) rfl
    have f3 := hf 3 (3, 3) rfl
    have f4 := hf 4 (4, 3) rfl
    have f5 := hf 5 (5, 3) rfl
    have f6 := hf 6 (6, 3) rfl
    have f7 := hf 7 (7, 3) rfl
    have f8 := hf 8 (8, 4) rfl
    have f9 := hf 9 (9, 26) rfl
    have f10 := hf 10 (10, 27) rfl
    rw [cells_of (tabOk 3 _ th3)] at f0 f1 f2 f3 f4 f5 f6 f7
    rw [cells_of (tabOk 4 _ th4)] at f8
    rw [cells_of (tabOk 26 _ th26)] at f9
    rw [cells_of (tabOk 27 _ th27)] at f10
    rw [cells_of (tabOk 29 _ th29)] at hl
    obtain ⟨a0, b0, c0, d0⟩ := rd_int ((tabOk 3 _ th3).int rfl) (x := y0) f0
    obtain ⟨a1, b1, c1, d1⟩ := rd_int ((tabOk 3 _ th3).int rfl) (x := y1) f1
    obtain ⟨a2, b2, c2, d2⟩ := rd_int ((tabOk 3 _ th3).int rfl) (x := y2) f2
    obtain ⟨a3, b3, c3, d3⟩ := rd_int ((tabOk 3 _ th3).int rfl) (x := y3) f3
    obtain ⟨a4, b4, c4, d4⟩ := rd_int ((tabOk 3 _ th3).int rfl) (x := y4) f4
    obtain ⟨a5, b5, c5, d5⟩ := rd_int ((tabOk 3 _ th3).int rfl) (x := y5) f5
    obtain ⟨a6, b6, c6, d6⟩ := rd_int ((tabOk 3 _ th3).int rfl) (x := y6) f6
    obtain ⟨a7, b7, c7, d7⟩ := rd_int ((tabOk 3 _ th3).int rfl) (x := y7) f7
    obtain ⟨a8, b8, c8⟩ := rd_bool ((tabOk 4 _ th4).bool rfl) (x := y8) f8
    obtain ⟨l, l1, l2⟩ := open_etrsM (x := y9) f9
    obtain ⟨u, u1, u2⟩ := open_bytes (x := y10) f10
    have e9 : Rows.uptoBulk y9.1 ≤ Rows.uptoBulk x.1 := by
      rw [hx]; simp only [List.map_cons, List.map_nil, Rows.uptoBulk, Rows.uptoBulkAll]; omega
    have e10 : Rows.uptoBulk y10.1 ≤ Rows.uptoBulk x.1 := by
      rw [hx]; simp only [List.map_cons, List.map_nil, Rows.uptoBulk, Rows.uptoBulkAll]; omega
    refine ⟨⟨a0, a1, a2, a3, a4, a5, a6, a7, a8, l, u⟩, ?_, ⟨fun e he => ?_, ?_, ?_⟩⟩
    · have := rdC_cat (cs := cs) (o := 0) (n := 1) b0 rfl (rdC_cat (n := 1) b1 rfl (rdC_cat (n := 1) b2 rfl (rdC_cat (n := 1) b3 rfl (rdC_cat (n := 1) b4 rfl (rdC_cat (n := 1) b5 rfl (rdC_cat (n := 1) b6 rfl (rdC_cat (n := 1) b7 rfl (rdC_cat (n := 1) b8 rfl (rdC_cat (n := 1) l1 rfl (rdC_cat (n := 1) u1 rfl (rdC_nil hl)))))))))))
      simpa [encM_cl] using this
    · obtain ⟨y, h1, h2⟩ := sl_memM l2 he
      exact ⟨y, h1, by omega⟩
    · have := sl_lenM l2
      show l.length ≤ _
      omega
    · have := sl_lenM u2
      show u.length ≤ _
      omega
theorem szDs_lenM : ∀ l : List Dlt, l.length ≤ szDs l
  | [] => by simp
  | d :: l => by
    have := szDs_lenM l
    have : 1 ≤ szV d.value := by cases d.value; simp only [szV]; omega
    simp only [szDs, List.length_cons]; omega
theorem okD_ofM {e : Etr} {d : DataW H} (h : AEtr e d) (hb : Rows.uptoBulk d ≤ 1048576) : OkD e := by
  have hs := h.sz
  have := szDs_lenM e.deltas
  refine ⟨by omega, by omega, by omega, fun x hx => ?_⟩
  have := szDs_mem hx
  have := szN_len x.path
  omega
theorem okM_of {m : Mg} {d : DataW H} (h : AMg m d) (hb : Rows.uptoBulk d ≤ 1048576) : OkM m := by
  refine ⟨by have := h.n; omega, by have := h.b; omega, fun e he => ?_⟩
  obtain ⟨y, h1, h2⟩ := h.e e he
  exact ⟨okE_of h1 (by omega), okEd_of h1 (by omega)⟩
theorem okMd_of {m : Mg} {d : DataW H} (h : AMg m d) (hb : Rows.uptoBulk d ≤ 1048576) : ∀ e ∈ m.es, OkD e := fun e he => by
  obtain ⟨y, h1, h2⟩ := h.e e he
  exact okD_ofM h1 (by omega)
end

end Go.Proofs.YtmielecljgfnaaaGreat.Abs

set_option linter.unusedVariables false
set_option linter.unusedSimpArgs false
set_option maxRecDepth 10000
namespace Go.Proofs.YtmielecljgfnaaaGreat.lawMsgChecks
open Go Abs
open Go.ChangeShapes Go.WideShapes Go.ChangeAt Go.RowKit
theorem own : ownKnob Tryz.prog.godebug = none := by kernel_rfl
theorem laid : laidOutB Tryz.prog = true := by kernel_rfl
theorem contract (H : Type) (enc : TypeId × Value → H) (W : World) (base : Nat) (args : Array Value) (ds gs : List (DataW H)) (before : List MemPlace)
    (hval : ∀ (j : Nat) t v, Tryz.f5.params[j]? = some t → args[j]? = some v → Value.okWide Tryz.prog W .any base t v)
    (hW : DataW.Whole enc Tryz.prog Tryz.f5.params.toList Rows.msgChecksSpec.vars false W args.toList ds gs before) (hk : Rows.uptoSmall H (ds ++ gs) = true) :
    Calls Tryz.prog 5 args W fun e W' => ∃ v, e = .returned v ∧ Rows.msgChecksSpec.post enc Tryz.prog Tryz.f5 false true false false W args v W' := by
  have hW' := hW
  obtain ⟨p, q, hA0, hV, rfl, hfz, hnd⟩ := hW
  have hA : DataW.TrodAll enc Tryz.prog W 0 (fun _ => true) true Tryz.f5.params.toList args.toList ds p := hA0
  rw [Tryz.params5] at hA hval
  obtain ⟨v0, vs0, d0, ds0, p0, q0, hargs, rfl, rfl, h0, r0⟩ := trodAll_cons hA
  obtain ⟨rfl, rfl, rfl⟩ := trodAll_nil r0
  obtain rfl : args = #[v0] := by cases args; simp_all
  obtain ⟨rfl, rfl⟩ := trodVars_none hV
  clear hA0
  simp only [List.append_nil] at hW' hk
  have hb : Rows.uptoBulkAll [d0] ≤ 1048576 := of_decide_eq_true hk
  simp only [Rows.uptoBulkAll] at hb
  obtain ⟨n0, t0⟩ := h0
  obtain ⟨m, c0, a0⟩ := open_msg t0
  have x0 := rdv_struct (hval 0 29 v0 rfl rfl) (tabOk _ _ th29) rfl c0 rfl rfl
  have ok : OkM m := okM_of (d := d0) a0 (by omega)
  have okd := okMd_of (d := d0) a0 (by omega)
  refine (calls_of_spec (vs := [v0]) (ds := [encM m]) Tryz.func5 (by kernel_rfl) (by kernel_rfl) (s5 m ok okd) ⟨rfl, fun i x v hx hv => ?_⟩).mono fun e W' ⟨he, hg⟩ => ?_
  · match i, hx, hv with
    | 0, hx, hv => simp at hx hv; subst hx; subst hv; exact x0
    | i + 1, hx, hv => simp at hx
  subst he
  exact ⟨_, rfl, post_of_below (pa := p0 ++ []) (pv := []) hW' (fun _ _ _ => trodAll_cons_mk (shut_bool Tryz.underlying4 _) trodAll_mk0) (fun sp hs => trodAll_stays laid hg (by kernel_rfl) hA (fun x hx => hs x (by simpa using hx)) (fun x hx => hW'.lt x (by simpa using hx))) (fun _ _ => rfl) (by simp) hg (ok_one (by kernel_rfl) rfl (okWide_bool_mk Tryz.underlying4 _))⟩
set_option maxRecDepth 100000 in
theorem lifted (os : Os) (started : os.Started) (H : Type) (enc : TypeId × Value → H) (F : Stop.Interp) :
    ReturnsInHanded {} Tryz.checked os 5 .any ((Rows.OpenSpec.upto Rows.msgChecksSpec).pre6 enc Tryz.prog Tryz.f5 Rows.msgChecksUptoRow.domain false) (((Rows.OpenSpec.upto Rows.msgChecksSpec).at F).post enc Tryz.prog Tryz.f5 false true false false) := by
  refine returnsInHanded_of_cond (C := Tryz.checked) (s := Rows.OpenSpec.upto Rows.msgChecksSpec) (k := Rows.uptoSmall) rfl own started (by kernel_rfl) Tryz.func5
    (OpenSpec.witness (enc := enc) (C := Tryz.checked) (s := Rows.OpenSpec.upto Rows.msgChecksSpec) (k := Rows.uptoSmall) rfl false ⟨#[], #[.agg #[.int .i64 0, .int .i64 0, .int .i64 0, .int .i64 0, .int .i64 0, .int .i64 0, .int .i64 0, .int .i64 0, .bool false, .slice none 0 0, .slice none 0 0]], []⟩ 8 (by kernel_rfl) (by kernel_rfl) (by kernel_rfl)
      (x := ([.agg [.lit (.int .i64 0), .lit (.int .i64 0), .lit (.int .i64 0), .lit (.int .i64 0), .lit (.int .i64 0), .lit (.int .i64 0), .lit (.int .i64 0), .lit (.int .i64 0), .lit (.bool false), .nil, .nil]], [], [])) (by kernel_rfl) rfl (by kernel_rfl)) ?_
  intro W base args ds gs before hval hW _ hk _
  exact contract H enc W base args ds gs before hval hW hk
theorem j0 : (fun (P : Program) (f : FuncId) (fn : Func) (s : ChangeSpec) (c : OpenClaim) => (c.wf (OpenSpec.ofChange s) : Bool)) Tryz.checked.prog 5 Tryz.f5 (Rows.OpenSpec.upto Rows.msgChecksSpec).bare Rows.msgChecksUptoRow = true := by kernel_rfl
theorem j1 : (fun (P : Program) (f : FuncId) (fn : Func) (s : ChangeSpec) (c : OpenClaim) => (laidOutB P : Bool)) Tryz.checked.prog 5 Tryz.f5 (Rows.OpenSpec.upto Rows.msgChecksSpec).bare Rows.msgChecksUptoRow = true := by kernel_rfl
theorem j2 : (fun (P : Program) (f : FuncId) (fn : Func) (s : ChangeSpec) (c : OpenClaim) => (mapsRowed P : Bool)) Tryz.checked.prog 5 Tryz.f5 (Rows.OpenSpec.upto Rows.msgChecksSpec).bare Rows.msgChecksUptoRow = true := by kernel_rfl
theorem j3 : (fun (P : Program) (f : FuncId) (fn : Func) (s : ChangeSpec) (c : OpenClaim) => (fn.params.all (P.readableRec ·) : Bool)) Tryz.checked.prog 5 Tryz.f5 (Rows.OpenSpec.upto Rows.msgChecksSpec).bare Rows.msgChecksUptoRow = true := by kernel_rfl
theorem j4 : (fun (P : Program) (f : FuncId) (fn : Func) (s : ChangeSpec) (c : OpenClaim) => (namedTie P c.named s.vars : Bool)) Tryz.checked.prog 5 Tryz.f5 (Rows.OpenSpec.upto Rows.msgChecksSpec).bare Rows.msgChecksUptoRow = true := by kernel_rfl
theorem j5 : (fun (P : Program) (f : FuncId) (fn : Func) (s : ChangeSpec) (c : OpenClaim) => ((c.stops == []) : Bool)) Tryz.checked.prog 5 Tryz.f5 (Rows.OpenSpec.upto Rows.msgChecksSpec).bare Rows.msgChecksUptoRow = true := by kernel_rfl
theorem j6 : (fun (P : Program) (f : FuncId) (fn : Func) (s : ChangeSpec) (c : OpenClaim) => ((P.stops == []) : Bool)) Tryz.checked.prog 5 Tryz.f5 (Rows.OpenSpec.upto Rows.msgChecksSpec).bare Rows.msgChecksUptoRow = true := by kernel_rfl
theorem j7 : (fun (P : Program) (f : FuncId) (fn : Func) (s : ChangeSpec) (c : OpenClaim) => ((c.knobs == []) : Bool)) Tryz.checked.prog 5 Tryz.f5 (Rows.OpenSpec.upto Rows.msgChecksSpec).bare Rows.msgChecksUptoRow = true := by kernel_rfl
theorem j8 : (fun (P : Program) (f : FuncId) (fn : Func) (s : ChangeSpec) (c : OpenClaim) => ((P.stopKnobs == []) : Bool)) Tryz.checked.prog 5 Tryz.f5 (Rows.OpenSpec.upto Rows.msgChecksSpec).bare Rows.msgChecksUptoRow = true := by kernel_rfl
theorem j9 : (fun (P : Program) (f : FuncId) (fn : Func) (s : ChangeSpec) (c : OpenClaim) => ((c.inPlace == P.inPlace f) : Bool)) Tryz.checked.prog 5 Tryz.f5 (Rows.OpenSpec.upto Rows.msgChecksSpec).bare Rows.msgChecksUptoRow = true := by kernel_rfl
theorem j10 : (fun (P : Program) (f : FuncId) (fn : Func) (s : ChangeSpec) (c : OpenClaim) => ((c.unfollowed == P.unfollowed f) : Bool)) Tryz.checked.prog 5 Tryz.f5 (Rows.OpenSpec.upto Rows.msgChecksSpec).bare Rows.msgChecksUptoRow = true := by kernel_rfl
theorem j11 : (fun (P : Program) (f : FuncId) (fn : Func) (s : ChangeSpec) (c : OpenClaim) => ((c.recurses == P.recurses f) : Bool)) Tryz.checked.prog 5 Tryz.f5 (Rows.OpenSpec.upto Rows.msgChecksSpec).bare Rows.msgChecksUptoRow = true := by kernel_rfl
theorem j12 : (fun (P : Program) (f : FuncId) (fn : Func) (s : ChangeSpec) (c : OpenClaim) => ((c.named == P.varsNamed f) : Bool)) Tryz.checked.prog 5 Tryz.f5 (Rows.OpenSpec.upto Rows.msgChecksSpec).bare Rows.msgChecksUptoRow = true := by kernel_rfl
theorem j13 : (fun (P : Program) (f : FuncId) (fn : Func) (s : ChangeSpec) (c : OpenClaim) => ((c.maps == (fn.params.toList ++ s.plain.varTypes P).any (P.mapsRec ·)) : Bool)) Tryz.checked.prog 5 Tryz.f5 (Rows.OpenSpec.upto Rows.msgChecksSpec).bare Rows.msgChecksUptoRow = true := by kernel_rfl
theorem j14 : (fun (P : Program) (f : FuncId) (fn : Func) (s : ChangeSpec) (c : OpenClaim) => ((c.ifaces == (fn.params.toList ++ s.plain.varTypes P).any (P.ifacesRec ·)) : Bool)) Tryz.checked.prog 5 Tryz.f5 (Rows.OpenSpec.upto Rows.msgChecksSpec).bare Rows.msgChecksUptoRow = true := by kernel_rfl
theorem j15 : (fun (P : Program) (f : FuncId) (fn : Func) (s : ChangeSpec) (c : OpenClaim) => ((c.mapsOut == P.mapsAmong fn.resultTypes.toList) : Bool)) Tryz.checked.prog 5 Tryz.f5 (Rows.OpenSpec.upto Rows.msgChecksSpec).bare Rows.msgChecksUptoRow = true := by kernel_rfl
theorem j16 : (fun (P : Program) (f : FuncId) (fn : Func) (s : ChangeSpec) (c : OpenClaim) => ((c.loops == (fn.params.toList ++ s.plain.varTypes P).any (P.loopsFrom ·)) : Bool)) Tryz.checked.prog 5 Tryz.f5 (Rows.OpenSpec.upto Rows.msgChecksSpec).bare Rows.msgChecksUptoRow = true := by kernel_rfl
theorem j17 : (fun (P : Program) (f : FuncId) (fn : Func) (s : ChangeSpec) (c : OpenClaim) => ((c.wideKeys == (fn.params.toList ++ s.plain.varTypes P ++ fn.resultTypes.toList).any (P.wideKeysFrom ·)) : Bool)) Tryz.checked.prog 5 Tryz.f5 (Rows.OpenSpec.upto Rows.msgChecksSpec).bare Rows.msgChecksUptoRow = true := by kernel_rfl
theorem j18 : (fun (P : Program) (f : FuncId) (fn : Func) (s : ChangeSpec) (c : OpenClaim) => (s.vars.all (P.varReadable ·) : Bool)) Tryz.checked.prog 5 Tryz.f5 (Rows.OpenSpec.upto Rows.msgChecksSpec).bare Rows.msgChecksUptoRow = true := by kernel_rfl
theorem j19 : (fun (P : Program) (f : FuncId) (fn : Func) (s : ChangeSpec) (c : OpenClaim) => (fn.resultTypes.all (fun t => P.readableRec t && decide (t < P.types.size)) : Bool)) Tryz.checked.prog 5 Tryz.f5 (Rows.OpenSpec.upto Rows.msgChecksSpec).bare Rows.msgChecksUptoRow = true := by kernel_rfl
theorem j20 : (fun (P : Program) (f : FuncId) (fn : Func) (s : ChangeSpec) (c : OpenClaim) => ((c.ifacesOut == fn.resultTypes.toList.any (P.ifacesRec ·)) : Bool)) Tryz.checked.prog 5 Tryz.f5 (Rows.OpenSpec.upto Rows.msgChecksSpec).bare Rows.msgChecksUptoRow = true := by kernel_rfl
theorem j21 : (fun (P : Program) (f : FuncId) (fn : Func) (s : ChangeSpec) (c : OpenClaim) => ((c.loopsOut == fn.resultTypes.toList.any (P.loopsFrom ·)) : Bool)) Tryz.checked.prog 5 Tryz.f5 (Rows.OpenSpec.upto Rows.msgChecksSpec).bare Rows.msgChecksUptoRow = true := by kernel_rfl
theorem j22 : (fun (P : Program) (f : FuncId) (fn : Func) (s : ChangeSpec) (c : OpenClaim) => ((c.plainKeys == P.plainKeys) : Bool)) Tryz.checked.prog 5 Tryz.f5 (Rows.OpenSpec.upto Rows.msgChecksSpec).bare Rows.msgChecksUptoRow = true := by kernel_rfl
theorem j23 : (fun (P : Program) (f : FuncId) (fn : Func) (s : ChangeSpec) (c : OpenClaim) => (c.shortTexts.isNone : Bool)) Tryz.checked.prog 5 Tryz.f5 (Rows.OpenSpec.upto Rows.msgChecksSpec).bare Rows.msgChecksUptoRow = true := by kernel_rfl
theorem j24 : (fun (P : Program) (f : FuncId) (fn : Func) (s : ChangeSpec) (c : OpenClaim) => (P.stopsHeard : Bool)) Tryz.checked.prog 5 Tryz.f5 (Rows.OpenSpec.upto Rows.msgChecksSpec).bare Rows.msgChecksUptoRow = true := by kernel_rfl
theorem j25 : (fun (P : Program) (f : FuncId) (fn : Func) (s : ChangeSpec) (c : OpenClaim) => (P.mayEnter : Bool)) Tryz.checked.prog 5 Tryz.f5 (Rows.OpenSpec.upto Rows.msgChecksSpec).bare Rows.msgChecksUptoRow = true := by kernel_rfl
theorem j26 : (fun (P : Program) (f : FuncId) (fn : Func) (s : ChangeSpec) (c : OpenClaim) => ((c.lifted == P.liftsFinal) : Bool)) Tryz.checked.prog 5 Tryz.f5 (Rows.OpenSpec.upto Rows.msgChecksSpec).bare Rows.msgChecksUptoRow = true := by kernel_rfl
theorem j27 : (fun (P : Program) (f : FuncId) (fn : Func) (s : ChangeSpec) (c : OpenClaim) => ((P.make == some c.make) : Bool)) Tryz.checked.prog 5 Tryz.f5 (Rows.OpenSpec.upto Rows.msgChecksSpec).bare Rows.msgChecksUptoRow = true := by kernel_rfl
theorem j28 : (fun (P : Program) (f : FuncId) (fn : Func) (s : ChangeSpec) (c : OpenClaim) => ((c.kinds == (if c.domain.isEmpty then [] else fn.params.toList.map fun t => match P.underlying t with | some (.int k) => some k | _ => none)) : Bool)) Tryz.checked.prog 5 Tryz.f5 (Rows.OpenSpec.upto Rows.msgChecksSpec).bare Rows.msgChecksUptoRow = true := by kernel_rfl
theorem j29 : (fun (P : Program) (f : FuncId) (fn : Func) (s : ChangeSpec) (c : OpenClaim) => ((c.pinned == c.pinnedBy) : Bool)) Tryz.checked.prog 5 Tryz.f5 (Rows.OpenSpec.upto Rows.msgChecksSpec).bare Rows.msgChecksUptoRow = true := by kernel_rfl
theorem j30 : (fun (P : Program) (f : FuncId) (fn : Func) (s : ChangeSpec) (c : OpenClaim) => ((c.veiled == (fn.params.toList ++ s.plain.varTypes P ++ fn.resultTypes.toList).any (P.veiledRec ·)) : Bool)) Tryz.checked.prog 5 Tryz.f5 (Rows.OpenSpec.upto Rows.msgChecksSpec).bare Rows.msgChecksUptoRow = true := by kernel_rfl
theorem j31 : (fun (P : Program) (f : FuncId) (fn : Func) (s : ChangeSpec) (c : OpenClaim) => (c.veiledFits P fn.params.toList (fn.params.toList ++ s.plain.varTypes P ++ fn.resultTypes.toList) : Bool)) Tryz.checked.prog 5 Tryz.f5 (Rows.OpenSpec.upto Rows.msgChecksSpec).bare Rows.msgChecksUptoRow = true := by kernel_rfl
theorem jand (a b : Bool) (h1 : a = true) (h2 : b = true) : (a && b) = true := by rw [h1, h2]; rfl
theorem closed : joinedFacts Tryz.checked.prog 5 Tryz.f5 (Rows.OpenSpec.upto Rows.msgChecksSpec).bare Rows.msgChecksUptoRow = true := jand _ _ (jand _ _ (jand _ _ (jand _ _ (jand _ _ (jand _ _ (jand _ _ (jand _ _ (jand _ _ (jand _ _ (jand _ _ (jand _ _ (jand _ _ (jand _ _ (jand _ _ (jand _ _ (jand _ _ (jand _ _ (jand _ _ (jand _ _ (jand _ _ (jand _ _ (jand _ _ (jand _ _ (jand _ _ (jand _ _ (jand _ _ (jand _ _ (jand _ _ (jand _ _ (jand _ _ j0 j1) j2) j3) j4) j5) j6) j7) j8) j9) j10) j11) j12) j13) j14) j15) j16) j17) j18) j19) j20) j21) j22) j23) j24) j25) j26) j27) j28) j29) j30) j31
theorem over : Rows.msgChecksUptoRow.holds Tryz.pinned (Rows.OpenSpec.upto Rows.msgChecksSpec) :=
  OpenClaim.holds_of_cond 5 Tryz.f5 rfl rfl rfl rfl rfl rfl rfl ⟨rfl, rfl, rfl, rfl, rfl⟩ rfl rfl rfl rfl rfl (by kernel_rfl) Tryz.func5 closed
    (of_decide_eq_true (by kernel_rfl)) (by unfold Func.isWrapper; first | (rw [if_pos (by decide +kernel)]; kernel_rfl) | (rw [if_neg (by decide +kernel)]; exact ⟨rfl, rfl⟩))
    (fun os started H enc _ F => lifted os started H enc F)
end Go.Proofs.YtmielecljgfnaaaGreat.lawMsgChecks
namespace Go.Proofs.YtmielecljgfnaaaGreat
theorem msgChecks_upto_holds : Rows.MsgChecksUptoSaid := lawMsgChecks.over
end Go.Proofs.YtmielecljgfnaaaGreat
