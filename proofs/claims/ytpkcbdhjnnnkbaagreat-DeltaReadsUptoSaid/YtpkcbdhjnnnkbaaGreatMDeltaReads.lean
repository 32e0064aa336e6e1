/- DeltaReads: called with any bytes and any number that hold together at most 1048576 values and letters, the law answers true, and the bytes read afterwards as they read before. -/
import Derived.Test.YtpkcbdhjnnnkbaaGreatMDeltaReads5
import Derived.Test.YtpkcbdhjnnnkbaaGreatMDeltaReads4
import Derived.Test.YtpkcbdhjnnnkbaaGreatMDeltaReads3
import Derived.Test.YtpkcbdhjnnnkbaaGreatRows
import Derived.WalkKit
import Derived.ProofKit
import Derived.OpenShut
import Derived.JoinedCond
import Derived.ChangeArms
import Derived.Carry
set_option linter.unusedVariables false
set_option linter.unusedSimpArgs false
set_option maxRecDepth 10000
set_option maxHeartbeats 1000000
namespace Go.Proofs.YtpkcbdhjnnnkbaaGreat.Abs
open Go
theorem rdAllR_rng (s : SB) : rngV (rdAllR s).1 := by
  rw [← (rdAll_q s).1]; exact rdAll_rng s
theorem rdAllR_sz (s : SB) (hx : s.1.length ≤ 1048576) : szV (rdAllR s).1 ≤ 1099511627776 := by
  rw [← (rdAll_q s).1]; exact rdAll_sz s hx
theorem rdTr_bad {n : Nat} {s : SB} {ns : List Str} (hb : s.2 = true) : rdTr n s ns = (ns, s) := by
  cases n with
  | zero => rfl
  | succ n => simp only [rdTr, if_pos hb]
theorem rdTr_le : ∀ (n : Nat) (s : SB) (ns : List Str), (rdTr n s ns).2.1.length ≤ s.1.length
  | 0, s, ns => Nat.le_refl _
  | n + 1, s, ns => by
    simp only [rdTr]; split
    · exact Nat.le_refl _
    · exact Nat.le_trans (rdTr_le n _ _) (txt_le s 32)
/-- A delta, as the document reads it. -/
def rdDr (s : SB) : Dlt × SB := spoilD (rdD3 rdAllR (rdByte s).1 (rdTr (cntS (rdByte s).2 8).1.toNat (cntS (rdByte s).2 8).2 []).1 (rdTr (cntS (rdByte s).2 8).1.toNat (cntS (rdByte s).2 8).2 []).2)
theorem rdD3r_le (k : Int) (ns : List Str) (s : SB) : (rdD3 rdAllR k ns s).2.1.length ≤ s.1.length := by
  unfold rdD3; split
  · exact rdAllR_le s
  · split
    · exact cnt_le _ _
    · exact Nat.le_refl _
theorem rdDr_le (s : SB) : (rdDr s).2.1.length ≤ s.1.length := by
  unfold rdDr
  rw [spoil_len]
  exact Nat.le_trans (rdD3r_le _ _ _) (Nat.le_trans (rdTr_le _ _ _) (Nat.le_trans (cnt_le _ _) (byte_le s)))
def rdDlr : Nat → SB → List Dlt → List Dlt × SB
  | 0, s, ds => (ds, s)
  | n + 1, s, ds => if s.2 = true then (ds, s) else rdDlr n (rdDr s).2 (ds ++ [(rdDr s).1])
def rdDsR (s : SB) : List Dlt × SB := rdDq (rdDlr (cntS s 64).1.toNat (cntS s 64).2 [])
theorem rdDlr_bad {n : Nat} {s : SB} {ds : List Dlt} (hb : s.2 = true) : rdDlr n s ds = (ds, s) := by
  cases n with
  | zero => rfl
  | succ n => simp only [rdDlr, if_pos hb]
theorem dst_frz {o : Nat → Option AO} {e z : Nat} {c : SV} {q : Option Nat} {xs : List D} {t : Nat} {d : D} (h : dstOf o e z c = some (q, xs)) (hn : q ≠ some t) : c.frz t d = c := by
  rcases dst_two h with ⟨rfl, _, _⟩ | ⟨u, rfl, rfl, _⟩
  · rfl
  · exact if_neg (fun e => hn (by rw [e]))

theorem fn40 : FnOk Tryz.prog 40 74 [2] (bodyOf Tryz.f40) := ⟨Tryz.f40, Tryz.func40, by kernel_rfl, by decide, by kernel_rfl, by kernel_rfl⟩
theorem s40 (s : SB) (hx : s.1.length ≤ 1048576) : MSpec Tryz.prog 40 (fun k => [.loc k 0]) (srcS s) (srcS (rdDsR s).2) (.d (.sl 8 ((rdDsR s).1.map encD))) := by
 have hcr := cnt_rng s 64 (by decide)
 have hcl := cnt_le s 64
 refine MSpec.ofW fn40 (fun _ => by simp) (fun _ => by first | exact srcS_lts _ _ | simp [SV.lts, SV.lt]) fun o nk k hkn hM => ?_
 refine wr ?_
 refine ua ?_
 refine u_nil ?_
 refine wr ?_
 refine u_step (o_moveV (v := .loc _ _) rfl ?_)
 refine u_step (g_mcall (s94 s 64) hM rfl fun o3 hb3 hk3 => ?_)
 refine ua ?_
 refine u_nil ?_
 refine wr ?_
 refine ua ?_
 refine u_nil ?_
 refine WP.seq fun K5 hK5 => ?_
 refine wr ?_
 refine ua ?_
 refine u_nil ?_
 refine WP.block ?_
 refine WP.loopL (ι := Nat × SB × List Dlt × SV × Option Nat × (Nat → Option AO) × Nat) (fun ⟨i, s1, ds, c, q, o2, nk2⟩ => ⟨al [(0, .loc k 0), (3, .d (.int .i64 (cntS s 64).1)), (4, c), (5, .d (.int .i64 i))], o2, nk2⟩) (fun ⟨i, s1, ds, c, q, o2, nk2⟩ => i ≤ (cntS s 64).1.toNat ∧ nk ≤ nk2 ∧ s1.1.length ≤ 1048576 ∧ ds.length ≤ i ∧ rdDlr ((cntS s 64).1.toNat - i) s1 ds = rdDlr (cntS s 64).1.toNat (cntS s 64).2 [] ∧ o2 k = some (.box (srcS s1)) ∧ dstOf o2 83 8 c = some (q, ds.map encD) ∧ (∀ t, q = some t → nk ≤ t ∧ t < nk2) ∧ ∀ t, t < nk ∧ t ≠ k → o2 t = o t) (fun ⟨i, s1, ds, c, q, o2, nk2⟩ => (cntS s 64).1.toNat - i) (fun ⟨i, s1, ds, c, q, o2, nk2⟩ hA => ?_) ⟨0, (cntS s 64).2, [], .d .nil, none, o3, nk⟩ ?_ ?_
 ·
  obtain ⟨hle, hnk, hsl, hnl, heq, hsk, hd, hq, hfr⟩ := hA
  refine WP.seq fun K7 hK7 => ?_
  refine wr ?_
  refine um ?_
  refine um ?_
  refine ub ?_
  refine um ?_
  apply gT
  · rfl
  · intro hg
    refine o_moveV (v := .loc _ _) rfl ⟨rfl, rfl, rfl⟩
  apply gT
  · rfl
  · intro hg; try simp only [hg, ct]; try simp only [hg, ct, Bt]
    refine o_nc rfl hsk ⟨rfl, rfl, rfl⟩
  apply gT
  · rfl
  · intro hg; try simp only [hg, ct]; try simp only [hg, ct, Bt]
    exact pf th63 th4 hsk
  apply gT
  · rfl
  · intro hg; try simp only [hg, ct]; try simp only [hg, ct, Bt]
    exact pl th4 hsk
  apply gT
  · rfl
  · intro hg; try simp only [hg, ct]; try simp only [hg, ct, Bt]
    exact pN
  refine uA ?_
  refine u_nil ?_
  refine wc (fun hc9 => ?_) (fun hc9 => ?_) <;> try simp only [Q0, Q1, Q2, Q3, Q4, Q5, Q6, Q7, Q8, ge_iff_le, gt_iff_lt] at hc9
  ·
   have hgo := hc9
   simp at hgo
   have hlt : i < (cntS s 64).1.toNat := by omega
   have hbad : ¬ s1.2 = true := by rw [hgo.2]; decide
   clear hgo
   have hcr1 := cnt_rng (rdByte s1).2 8 (by decide)
   have hcl1 := cnt_le (rdByte s1).2 8
   have hbl1 := byte_le s1
   refine WP.skip ?_
   refine hK7 _ ?_
   refine WP.seq fun K10 hK10 => ?_
   refine WP.block ?_
   refine wr ?_
   refine u_step (o_moveV (v := .loc _ _) rfl ?_)
   refine u_step (g_mcall (s95 s1) hsk rfl fun o12 hb12 hk12 => ?_)
   have hd_12 := dst_keep hd fun t e => hk12 t (by have := hq t e; omega)
   refine u_step (o_bu rfl th83 rfl rfl ?_)
   refine u_step (g_alloc th83 rfl fun o13 hb13 hk13 => ?_)
   have hd_13 := dst_keep hd_12 fun t e => hk13 t (by have := hq t e; omega)
   have hb12_13 := (hk13 _ (by omega)).trans hb12
   refine u_step0 (g_sta rfl rfl th83 rfl hb13 (by first | (simp; done) | (simp [D.leaves, D.width, valCells]; done) | decide) fun o14 hb14 hk14 => ?_)
   have hd_14 := dst_keep hd_13 fun t e => hk14 t (by have := hq t e; omega)
   have hb12_14 := (hk14 _ (by omega)).trans hb12_13
   refine u_nil ?_
   refine wr ?_
   refine u_step (o_moveV (v := .loc _ _) rfl ?_)
   refine u_step (g_mcall (s94 _ 8) hb12_14 rfl fun o16 hb16 hk16 => ?_)
   have hd_16 := dst_keep hd_14 fun t e => hk16 t (by have := hq t e; omega)
   have hb14_16 := (hk16 _ (by omega)).trans hb14
   refine ua ?_
   refine u_nil ?_
   refine WP.seq fun K17 hK17 => ?_
   refine wr ?_
   refine ua ?_
   refine u_nil ?_
   refine WP.block ?_
   refine WP.loopL (ι := Nat × SB × List Str × SV × Option Nat × (Nat → Option AO) × Nat) (fun ⟨j, s2, ns, c2, q2, o3, nk3⟩ => ⟨al [(0, .loc k 0), (3, .d (.int .i64 (cntS s 64).1)), (4, c), (5, .d (.int .i64 i)), (6, .loc nk2 0), (7, .d (.int .i64 (cntS (rdByte s1).2 8).1)), (8, .d (.int .i64 j))], o3, nk3⟩) (fun ⟨j, s2, ns, c2, q2, o3, nk3⟩ => j ≤ (cntS (rdByte s1).2 8).1.toNat ∧ nk2 + 1 ≤ nk3 ∧ s2.1.length ≤ 1048576 ∧ ns.length ≤ j ∧ rdTr ((cntS (rdByte s1).2 8).1.toNat - j) s2 ns = rdTr (cntS (rdByte s1).2 8).1.toNat (cntS (rdByte s1).2 8).2 [] ∧ o3 k = some (.box (srcS s2)) ∧ o3 nk2 = some (.box [.d (.int .i64 (rdByte s1).1), c2, .d (.int .i64 0), .d (.int .i64 0), .d (.str []), .d .nil, .d .nil, .d (.int .i64 0)]) ∧ dstOf o3 83 8 c = some (q, ds.map encD) ∧ dstOf o3 9 1 c2 = some (q2, ns.map .str) ∧ (∀ t, q2 = some t → nk2 + 1 ≤ t ∧ t < nk3) ∧ ∀ t, t < nk ∧ t ≠ k → o3 t = o t) (fun ⟨j, s2, ns, c2, q2, o3, nk3⟩ => (cntS (rdByte s1).2 8).1.toNat - j) (fun ⟨j, s2, ns, c2, q2, o3, nk3⟩ hA => ?_) ⟨0, (cntS (rdByte s1).2 8).2, [], .d .nil, none, o16, (nk2 + 1)⟩ ?_ ?_
   ·
    obtain ⟨hlej, hnkj, hslj, hnlj, heqj, hskj, hobj, hdj, hd4, hq4, hfrj⟩ := hA
    refine WP.seq fun K19 hK19 => ?_
    refine wr ?_
    refine um ?_
    refine um ?_
    refine ub ?_
    refine um ?_
    apply gT
    · rfl
    · intro hg
      refine o_moveV (v := .loc _ _) rfl ⟨rfl, rfl, rfl⟩
    apply gT
    · rfl
    · intro hg; try simp only [hg, ct]; try simp only [hg, ct, Bt]
      refine o_nc rfl hskj ⟨rfl, rfl, rfl⟩
    apply gT
    · rfl
    · intro hg; try simp only [hg, ct]; try simp only [hg, ct, Bt]
      exact pf th63 th4 hskj
    apply gT
    · rfl
    · intro hg; try simp only [hg, ct]; try simp only [hg, ct, Bt]
      exact pl th4 hskj
    apply gT
    · rfl
    · intro hg; try simp only [hg, ct]; try simp only [hg, ct, Bt]
      exact pN
    refine uA ?_
    refine u_nil ?_
    refine wc (fun hc21 => ?_) (fun hc21 => ?_) <;> try simp only [Q0, Q1, Q2, Q3, Q4, Q5, Q6, Q7, Q8, ge_iff_le, gt_iff_lt] at hc21
    ·
     have hgo := hc21
     simp at hgo
     have hltj : j < (cntS (rdByte s1).2 8).1.toNat := by omega
     have hbadj : ¬ s2.2 = true := by rw [hgo.2]; decide
     clear hgo
     refine WP.skip ?_
     refine hK19 _ ?_
     refine WP.seq fun K22 hK22 => ?_
     refine WP.block ?_
     refine WP.dr3 [.q 0 1, .q 0 1, .q 0 0, .w 0, .q 1 1, .w 1, .q 2 2, .w 2] [3, 5, 7] nk3 (nk3 + 1) (nk3 + 1) tabOk (by kernel_rfl) rfl (by kernel_rfl) (by kernel_rfl) ?_
     apply Exists.intro
     apply Exists.intro
     apply Exists.intro
     refine e_step2 rfl rfl (o_fa_loc rfl th83 rfl rfl th22 (by decide) hobj ⟨rfl, rfl, rfl⟩) ?_ ?_
     rotate_left
     refine e_step2 rfl rfl (o_ld_locV rfl th22 rfl hobj rfl ⟨rfl, rfl, rfl⟩) ?_ ?_
     rotate_left
     refine e_step rfl (o_moveV (v := .loc _ _) rfl ⟨rfl, rfl, rfl⟩) ?_
     refine e_w rfl rfl (w_mcall (s96 s2 32 (by omega)) hskj rfl ⟨rfl, rfl, rfl⟩) ?_
     refine e_step rfl (o_bs rfl th22 rfl th9 rfl rfl (by decide) rfl (by decide) (by decide) ⟨rfl, rfl, rfl⟩) ?_
     refine e_w rfl rfl (w_apD rfl th22 rfl th9 rfl rfl (by decide) rfl (dst_keep hd4 fun t e => (by have := hq4 t e; exact upd_ne _ _ (by omega))) (by simp only [List.length_map, List.length_cons, List.length_nil]; omega) (by simp only [List.length_map, List.length_cons, List.length_nil]; omega) ⟨rfl, rfl, rfl⟩) ?_
     refine e_step rfl (o_fa_loc rfl th83 rfl rfl th22 (by decide) (((upd_ne _ _ (by omega)).trans (killo_ne (fun e => by have := hq4 _ e; omega))).trans ((upd_ne _ _ (by omega)).trans hobj)) ⟨rfl, rfl, rfl⟩) ?_
     refine e_w0 rfl rfl (w_stV rfl rfl (upd_same _ _ _) th22 rfl (((upd_ne _ _ (by omega)).trans (killo_ne (fun e => by have := hq4 _ e; omega))).trans ((upd_ne _ _ (by omega)).trans hobj)) (by simp) ⟨rfl, rfl, rfl⟩) ?_
     refine e_nil rfl fun o26 ho26 => ?_
     have hdC_26 := dst_keep (o' := o26) hdj fun t e => (by have := hq t e; exact (ho26 t).trans ((upd_ne _ _ (by omega)).trans (((upd_ne _ _ (by omega)).trans (killo_ne (fun e => by have := hq4 _ e; omega))).trans (upd_ne _ _ (by omega)))))
     have hbM_26 := (ho26 _).trans ((upd_ne _ _ (by omega)).trans (((upd_ne _ _ (by omega)).trans (killo_ne (fun e => by have := hq4 _ e; omega))).trans (upd_same _ _ _)))
     have hbr24_26 := (ho26 _).trans ((upd_ne _ _ (by omega)).trans (upd_same _ _ _))
     have hbB_26 := (ho26 _).trans (upd_same _ _ _)
     have hk26 : ∀ t, t < nk ∧ t ≠ k → o26 t = o3 t := fun t ht => (ho26 t).trans ((upd_ne _ _ (by omega)).trans (((upd_ne _ _ (by omega)).trans (killo_ne (fun e => by have := hq4 _ e; omega))).trans (upd_ne _ _ (by omega))))
     ·
      refine hK22 _ ?_
      refine WP.reg tabOk rfl ?_
      refine um ?_
      refine ub ?_
      refine ua ?_
      refine u_nil ?_
      -- back
      refine ⟨⟨j + 1, (txtS s2 32).2, ns ++ [(txtS s2 32).1], .row _, some _, o26, (nk3 + 1)⟩, ⟨by omega, by omega, by have := txt_le s2 32; omega, by simp; omega, ?_, hbM_26, hbB_26, hdC_26, (map_snoc ns _).symm ▸ dst_row hbr24_26, fun t e => by injection e with e; omega, (fun t ht => (hk26 t (by omega)).trans ((hfrj t (by omega))))⟩, by simp only; omega, Le.al ?_⟩
      · rw [← heqj, show (cntS (rdByte s1).2 8).1.toNat - j = ((cntS (rdByte s1).2 8).1.toNat - (j + 1)) + 1 by omega]; simp only [rdTr]; rw [if_neg hbadj]
      · simp only [List.forall_mem_cons]
        exact ⟨rfl, rfl, rfl, rfl, rfl, rfl, cnt (by omega), by simp⟩
     exact o_fa_loc rfl th83 rfl rfl th22 (by decide) ((upd_ne _ _ (by omega)).trans hobj) ⟨rfl, rfl, rfl⟩
     exact o_ld_locV rfl th22 rfl ((upd_ne _ _ (by omega)).trans hobj) rfl ⟨rfl, rfl, rfl⟩
    ·
     have hfinj : rdTr (cntS (rdByte s1).2 8).1.toNat (cntS (rdByte s1).2 8).2 [] = (ns, s2) := by
       rw [← heqj]
       by_cases hz : s2.2 = true
       · exact rdTr_bad hz
       · have hge : (cntS (rdByte s1).2 8).1.toNat - j = 0 := by (have hgo := hc21; simp [hz] at hgo; omega)
         rw [hge]; rfl
     have hrd : rdDr s1 = spoilD (rdD3 rdAllR (rdByte s1).1 ns s2) := by unfold rdDr; rw [hfinj]
     refine WP.exit ?_
     refine hK17 _ ?_
     refine WP.seq fun K27 hK27 => ?_
     refine WP.frzC (pre := [.d (.int .i64 (rdByte s1).1)]) (post := [.d (.int .i64 0), .d (.int .i64 0), .d (.str []), .d .nil, .d .nil, .d (.int .i64 0)]) [(0, .loc k 0), (3, .d (.int .i64 (cntS s 64).1)), (4, c), (5, .d (.int .i64 i)), (6, .loc nk2 0)] nk2 hobj hd4 (Nat.le_refl _) (fun t e => ⟨rfl, rfl⟩) (fun t e => by simp only [List.forall_mem_cons]; exact ⟨rfl, rfl, (show SV.frz t (.sl 1 (ns.map .str)) c = c from dst_frz hdj (fun e2 => by have := hq t e2; have := hq4 t e; omega)), rfl, rfl, by simp⟩) (fun e => by simp only [List.forall_mem_cons]; exact ⟨rfl, rfl, rfl, rfl, rfl, by simp⟩) fun o9 hB9 hk9 hm9 => ?_
     have hF9 : ∀ t, t < nk2 → o9 t = o3 t := fun t ht => hk9 t ht (fun h => by have := hq4 t h; omega)
     have hM9 := (hF9 k (by omega)).trans hskj
     have hC9 := dst_keep (o' := o9) hdj fun t e => hF9 t (by have := hq t e; omega)
     refine WP.leB [.d (.int .i64 (rdByte s1).1), .d (.sl 1 (ns.map .str)), .d (.int .i64 0), .d (.int .i64 0), .d (.str []), .d (.sl 5 []), .d (.sl 1 []), .d (.int .i64 0)] hB9 ⟨D.le_refl _, D.le_refl _, D.le_refl _, D.le_refl _, D.le_refl _, rfl, rfl, D.le_refl _, trivial⟩ fun o8 hB8 hk8 => ?_
     have hF8 : ∀ t, t < nk2 → o8 t = o9 t := fun t ht => hk8 t (by omega)
     have hM8 := (hF8 k (by omega)).trans hM9
     have hC8 := dst_keep (o' := o8) hC9 fun t e => hF8 t (by have := hq t e; omega)
     refine wr ?_
     refine uf th83 th3 hB8 ?_
     refine ul th3 hB8 ?_
     refine u_nil ?_
     refine WP.block ?_
     refine wr ?_
     refine ub ?_
     refine ua ?_
     refine u_nil ?_
     refine wc (fun hc30 => ?_) (fun hc30 => ?_) <;> try simp only [Q0, Q1, Q2, Q3, Q4, Q5, Q6, Q7, Q8, ge_iff_le, gt_iff_lt] at hc30
     ·
      have g1 : (rdByte s1).1 = 1 := by simpa using hc30
      have hd3 : rdD3 rdAllR (rdByte s1).1 ns s2 = ((⟨(rdByte s1).1, ns, (rdAllR s2).1, 0⟩ : Dlt), (rdAllR s2).2) := if_pos g1
      have hok : okD (⟨(rdByte s1).1, ns, (rdAllR s2).1, 0⟩ : Dlt) := ⟨rdAllR_rng s2, rdAllR_sz s2 (by omega)⟩
      refine WP.reg tabOk rfl ?_
      refine u_step (o_moveV (v := .loc _ _) rfl ?_)
      refine u_step (g_mcall (s97 s2 (by omega)) hM8 rfl fun o31 hb31 hk31 => ?_)
      have hB8_31 := (hk31 _ (by omega)).trans hB8
      have hC8_31 := dst_keep hC8 fun t e => hk31 t (by have := hq t e; omega)
      refine uf th83 th27 hB8_31 ?_
      refine u_step0 (g_sta rfl (congrArg SV.d (encV_eq _)) th27 rfl hB8_31 (by simp [valCells]) fun o32 hb32 hk32 => ?_)
      have hC8_32 := dst_keep hC8_31 fun t e => hk32 t (by have := hq t e; omega)
      have hb31_32 := (hk32 _ (by omega)).trans hb31
      refine u_nil ?_
      refine hK27 _ ?_
      refine WP.seq fun K33 hK33 => ?_
      refine wr ?_
      refine ug th83 hb32 ?_
      refine u_step (o_pcall (s79 _ hok) rfl ?_)
      refine uN ?_
      refine u_nil ?_
      refine wc (fun hc35 => ?_) (fun hc35 => ?_) <;> try simp only [Q0, Q1, Q2, Q3, Q4, Q5, Q6, Q7, Q8, ge_iff_le, gt_iff_lt] at hc35
      ·
       have hm : ¬ mayD (rdD3 rdAllR (rdByte s1).1 ns s2).1 = true := by rw [hd3]; simpa using hc35
       have hr := hrd.trans (spoil_no hm)
       rw [hd3] at hr
       refine WP.reg tabOk rfl ?_
       refine u_step (o_moveV (v := .loc _ _) rfl ?_)
       refine u_step (o_nc rfl hb31_32 ?_)
       refine uf th63 th4 hb31_32 ?_
       refine u_step0 (g_st rfl rfl rfl th4 rfl hb31_32 (by first | (simp; done) | (simp [D.leaves, D.width]; done) | decide) fun o36 hb36 hk36 => ?_)
       have hC8_36 := dst_keep hC8_32 fun t e => hk36 t (by have := hq t e; omega)
       have hb32_36 := (hk36 _ (by omega)).trans hb32
       refine u_nil ?_
       refine hK33 _ ?_
       refine WP.reg tabOk rfl ?_
       refine u_step (o_moveV (v := c) rfl ?_)
       refine ug th83 hb32_36 ?_
       first | refine u_step (o_bs rfl th28 rfl th83 rfl rfl (by decide) rfl (by decide) (by decide) ?_) | refine u_step (o_bs1 rfl (by simp only [encV_width]) th28 rfl th83 rfl rfl (by decide) (by decide) ?_)
       refine u_step (g_apD2 rfl th28 rfl th83 rfl rfl (by decide) rfl hC8_36 (by simp only [List.length_map, List.length_cons, List.length_nil]; omega) (by simp only [List.length_map, List.length_cons, List.length_nil]; omega) fun o37 hb37 hk37 => ?_)
       have hb32_37 := (hk37 _ (by omega) (fun e => by have := hq _ e.symm; omega)).trans hb32_36
       have hb36_37 := (hk37 _ (by omega) (fun e => by have := hq _ e.symm; omega)).trans hb36
       refine u_step (o_assignV (v := .row _) rfl ?_)
       refine u_nil ?_
       refine hK10 _ ?_
       refine WP.reg tabOk rfl ?_
       refine um ?_
       refine ub ?_
       refine ua ?_
       refine u_nil ?_
       -- back
       refine ⟨⟨i + 1, (rdDr s1).2, ds ++ [(rdDr s1).1], .row _, some _, o37, (nk3 + 1)⟩, ⟨by omega, by omega, by have := rdDr_le s1; omega, by simp; omega, ?_, (by rw [hr]; exact hb36_37), (by rw [hr, mapD_snoc]; exact dst_row hb37), fun t e => by injection e with e; omega, (fun t ht => (hk37 t (by omega) (fun e => by have := hq _ e.symm; omega)).trans ((hk36 t (by omega)).trans ((hk32 t (by omega)).trans ((hk31 t (by omega)).trans ((hF8 t (by omega)).trans ((hF9 t (by omega)).trans ((hfrj t (by omega)))))))))⟩, by simp only; omega, Le.al ?_⟩
       · rw [← heq, show (cntS s 64).1.toNat - i = ((cntS s 64).1.toNat - (i + 1)) + 1 by omega]; simp only [rdDlr]; rw [if_neg hbad]
       · simp only [List.forall_mem_cons]
         exact ⟨rfl, rfl, rfl, cnt (by omega), by simp⟩
      ·
       have hm : mayD (rdD3 rdAllR (rdByte s1).1 ns s2).1 = true := by rw [hd3]; simpa using hc35
       have hr := hrd.trans (spoil_yes hm)
       rw [hd3] at hr
       refine WP.skip ?_
       refine hK33 _ ?_
       refine WP.reg tabOk rfl ?_
       refine u_step (o_moveV (v := c) rfl ?_)
       refine ug th83 hb32 ?_
       first | refine u_step (o_bs rfl th28 rfl th83 rfl rfl (by decide) rfl (by decide) (by decide) ?_) | refine u_step (o_bs1 rfl (by simp only [encV_width]) th28 rfl th83 rfl rfl (by decide) (by decide) ?_)
       refine u_step (g_apD2 rfl th28 rfl th83 rfl rfl (by decide) rfl hC8_32 (by simp only [List.length_map, List.length_cons, List.length_nil]; omega) (by simp only [List.length_map, List.length_cons, List.length_nil]; omega) fun o38 hb38 hk38 => ?_)
       have hb31_38 := (hk38 _ (by omega) (fun e => by have := hq _ e.symm; omega)).trans hb31_32
       have hb32_38 := (hk38 _ (by omega) (fun e => by have := hq _ e.symm; omega)).trans hb32
       refine u_step (o_assignV (v := .row _) rfl ?_)
       refine u_nil ?_
       refine hK10 _ ?_
       refine WP.reg tabOk rfl ?_
       refine um ?_
       refine ub ?_
       refine ua ?_
       refine u_nil ?_
       -- back
       refine ⟨⟨i + 1, (rdDr s1).2, ds ++ [(rdDr s1).1], .row _, some _, o38, (nk3 + 1)⟩, ⟨by omega, by omega, by have := rdDr_le s1; omega, by simp; omega, ?_, (by rw [hr]; exact hb31_38), (by rw [hr, mapD_snoc]; exact dst_row hb38), fun t e => by injection e with e; omega, (fun t ht => (hk38 t (by omega) (fun e => by have := hq _ e.symm; omega)).trans ((hk32 t (by omega)).trans ((hk31 t (by omega)).trans ((hF8 t (by omega)).trans ((hF9 t (by omega)).trans ((hfrj t (by omega))))))))⟩, by simp only; omega, Le.al ?_⟩
       · rw [← heq, show (cntS s 64).1.toNat - i = ((cntS s 64).1.toNat - (i + 1)) + 1 by omega]; simp only [rdDlr]; rw [if_neg hbad]
       · simp only [List.forall_mem_cons]
         exact ⟨rfl, rfl, rfl, cnt (by omega), by simp⟩
     ·
      have g1 : ¬ (rdByte s1).1 = 1 := by simpa using hc30
      refine wr ?_
      refine ub ?_
      refine ua ?_
      refine u_nil ?_
      refine wc (fun hc40 => ?_) (fun hc40 => ?_) <;> try simp only [Q0, Q1, Q2, Q3, Q4, Q5, Q6, Q7, Q8, ge_iff_le, gt_iff_lt] at hc40
      ·
       have g3 : (rdByte s1).1 = 3 := by simpa using hc40
       have hd3 : rdD3 rdAllR (rdByte s1).1 ns s2 = ((⟨(rdByte s1).1, ns, .mk 0 0 [] [] [], (cntS s2 999).1⟩ : Dlt), (cntS s2 999).2) := (if_neg g1).trans (if_pos g3)
       have hok : okD (⟨(rdByte s1).1, ns, .mk 0 0 [] [] [], (cntS s2 999).1⟩ : Dlt) := ⟨⟨by decide, trivial⟩, by simp [szV, szVs, szN]⟩
       refine WP.reg tabOk rfl ?_
       refine u_step (o_moveV (v := .loc _ _) rfl ?_)
       refine u_step (g_mcall (s94 s2 999) hM8 rfl fun o41 hb41 hk41 => ?_)
       have hB8_41 := (hk41 _ (by omega)).trans hB8
       have hC8_41 := dst_keep hC8 fun t e => hk41 t (by have := hq t e; omega)
       refine uf th83 th3 hB8_41 ?_
       refine u_step0 (g_st rfl rfl rfl th3 rfl hB8_41 (by first | (simp; done) | (simp [D.leaves, D.width]; done) | decide) fun o42 hb42 hk42 => ?_)
       have hC8_42 := dst_keep hC8_41 fun t e => hk42 t (by have := hq t e; omega)
       have hb41_42 := (hk42 _ (by omega)).trans hb41
       refine u_nil ?_
       refine hK27 _ ?_
       refine WP.seq fun K43 hK43 => ?_
       refine wr ?_
       refine ug th83 hb42 ?_
       refine u_step (o_pcall (s79 _ hok) rfl ?_)
       refine uN ?_
       refine u_nil ?_
       refine wc (fun hc45 => ?_) (fun hc45 => ?_) <;> try simp only [Q0, Q1, Q2, Q3, Q4, Q5, Q6, Q7, Q8, ge_iff_le, gt_iff_lt] at hc45
       ·
        have hm : ¬ mayD (rdD3 rdAllR (rdByte s1).1 ns s2).1 = true := by rw [hd3]; simpa using hc45
        have hr := hrd.trans (spoil_no hm)
        rw [hd3] at hr
        refine WP.reg tabOk rfl ?_
        refine u_step (o_moveV (v := .loc _ _) rfl ?_)
        refine u_step (o_nc rfl hb41_42 ?_)
        refine uf th63 th4 hb41_42 ?_
        refine u_step0 (g_st rfl rfl rfl th4 rfl hb41_42 (by first | (simp; done) | (simp [D.leaves, D.width]; done) | decide) fun o46 hb46 hk46 => ?_)
        have hC8_46 := dst_keep hC8_42 fun t e => hk46 t (by have := hq t e; omega)
        have hb42_46 := (hk46 _ (by omega)).trans hb42
        refine u_nil ?_
        refine hK43 _ ?_
        refine WP.reg tabOk rfl ?_
        refine u_step (o_moveV (v := c) rfl ?_)
        refine ug th83 hb42_46 ?_
        first | refine u_step (o_bs rfl th28 rfl th83 rfl rfl (by decide) rfl (by decide) (by decide) ?_) | refine u_step (o_bs1 rfl (by simp only [encV_width]) th28 rfl th83 rfl rfl (by decide) (by decide) ?_)
        refine u_step (g_apD2 rfl th28 rfl th83 rfl rfl (by decide) rfl hC8_46 (by simp only [List.length_map, List.length_cons, List.length_nil]; omega) (by simp only [List.length_map, List.length_cons, List.length_nil]; omega) fun o47 hb47 hk47 => ?_)
        have hb42_47 := (hk47 _ (by omega) (fun e => by have := hq _ e.symm; omega)).trans hb42_46
        have hb46_47 := (hk47 _ (by omega) (fun e => by have := hq _ e.symm; omega)).trans hb46
        refine u_step (o_assignV (v := .row _) rfl ?_)
        refine u_nil ?_
        refine hK10 _ ?_
        refine WP.reg tabOk rfl ?_
        refine um ?_
        refine ub ?_
        refine ua ?_
        refine u_nil ?_
        -- back
        refine ⟨⟨i + 1, (rdDr s1).2, ds ++ [(rdDr s1).1], .row _, some _, o47, (nk3 + 1)⟩, ⟨by omega, by omega, by have := rdDr_le s1; omega, by simp; omega, ?_, (by rw [hr]; exact hb46_47), (by rw [hr, mapD_snoc]; exact dst_row hb47), fun t e => by injection e with e; omega, (fun t ht => (hk47 t (by omega) (fun e => by have := hq _ e.symm; omega)).trans ((hk46 t (by omega)).trans ((hk42 t (by omega)).trans ((hk41 t (by omega)).trans ((hF8 t (by omega)).trans ((hF9 t (by omega)).trans ((hfrj t (by omega)))))))))⟩, by simp only; omega, Le.al ?_⟩
        · rw [← heq, show (cntS s 64).1.toNat - i = ((cntS s 64).1.toNat - (i + 1)) + 1 by omega]; simp only [rdDlr]; rw [if_neg hbad]
        · simp only [List.forall_mem_cons]
          exact ⟨rfl, rfl, rfl, cnt (by omega), by simp⟩
       ·
        have hm : mayD (rdD3 rdAllR (rdByte s1).1 ns s2).1 = true := by rw [hd3]; simpa using hc45
        have hr := hrd.trans (spoil_yes hm)
        rw [hd3] at hr
        refine WP.skip ?_
        refine hK43 _ ?_
        refine WP.reg tabOk rfl ?_
        refine u_step (o_moveV (v := c) rfl ?_)
        refine ug th83 hb42 ?_
        first | refine u_step (o_bs rfl th28 rfl th83 rfl rfl (by decide) rfl (by decide) (by decide) ?_) | refine u_step (o_bs1 rfl (by simp only [encV_width]) th28 rfl th83 rfl rfl (by decide) (by decide) ?_)
        refine u_step (g_apD2 rfl th28 rfl th83 rfl rfl (by decide) rfl hC8_42 (by simp only [List.length_map, List.length_cons, List.length_nil]; omega) (by simp only [List.length_map, List.length_cons, List.length_nil]; omega) fun o48 hb48 hk48 => ?_)
        have hb41_48 := (hk48 _ (by omega) (fun e => by have := hq _ e.symm; omega)).trans hb41_42
        have hb42_48 := (hk48 _ (by omega) (fun e => by have := hq _ e.symm; omega)).trans hb42
        refine u_step (o_assignV (v := .row _) rfl ?_)
        refine u_nil ?_
        refine hK10 _ ?_
        refine WP.reg tabOk rfl ?_
        refine um ?_
        refine ub ?_
        refine ua ?_
        refine u_nil ?_
        -- back
        refine ⟨⟨i + 1, (rdDr s1).2, ds ++ [(rdDr s1).1], .row _, some _, o48, (nk3 + 1)⟩, ⟨by omega, by omega, by have := rdDr_le s1; omega, by simp; omega, ?_, (by rw [hr]; exact hb41_48), (by rw [hr, mapD_snoc]; exact dst_row hb48), fun t e => by injection e with e; omega, (fun t ht => (hk48 t (by omega) (fun e => by have := hq _ e.symm; omega)).trans ((hk42 t (by omega)).trans ((hk41 t (by omega)).trans ((hF8 t (by omega)).trans ((hF9 t (by omega)).trans ((hfrj t (by omega))))))))⟩, by simp only; omega, Le.al ?_⟩
        · rw [← heq, show (cntS s 64).1.toNat - i = ((cntS s 64).1.toNat - (i + 1)) + 1 by omega]; simp only [rdDlr]; rw [if_neg hbad]
        · simp only [List.forall_mem_cons]
          exact ⟨rfl, rfl, rfl, cnt (by omega), by simp⟩
      ·
       have g3 : ¬ (rdByte s1).1 = 3 := by simpa using hc40
       have hd3 : rdD3 rdAllR (rdByte s1).1 ns s2 = ((⟨(rdByte s1).1, ns, .mk 0 0 [] [] [], 0⟩ : Dlt), s2) := (if_neg g1).trans (if_neg g3)
       have hok : okD (⟨(rdByte s1).1, ns, .mk 0 0 [] [] [], 0⟩ : Dlt) := ⟨⟨by decide, trivial⟩, by simp [szV, szVs, szN]⟩
       refine WP.skip ?_
       refine hK27 _ ?_
       refine WP.seq fun K49 hK49 => ?_
       refine wr ?_
       refine ug th83 hB8 ?_
       refine u_step (o_pcall (s79 _ hok) rfl ?_)
       refine uN ?_
       refine u_nil ?_
       refine wc (fun hc51 => ?_) (fun hc51 => ?_) <;> try simp only [Q0, Q1, Q2, Q3, Q4, Q5, Q6, Q7, Q8, ge_iff_le, gt_iff_lt] at hc51
       ·
        have hm : ¬ mayD (rdD3 rdAllR (rdByte s1).1 ns s2).1 = true := by rw [hd3]; simpa using hc51
        have hr := hrd.trans (spoil_no hm)
        rw [hd3] at hr
        refine WP.reg tabOk rfl ?_
        refine u_step (o_moveV (v := .loc _ _) rfl ?_)
        refine u_step (o_nc rfl hM8 ?_)
        refine uf th63 th4 hM8 ?_
        refine u_step0 (g_st rfl rfl rfl th4 rfl hM8 (by first | (simp; done) | (simp [D.leaves, D.width]; done) | decide) fun o52 hb52 hk52 => ?_)
        have hB8_52 := (hk52 _ (by omega)).trans hB8
        have hC8_52 := dst_keep hC8 fun t e => hk52 t (by have := hq t e; omega)
        refine u_nil ?_
        refine hK49 _ ?_
        refine WP.reg tabOk rfl ?_
        refine u_step (o_moveV (v := c) rfl ?_)
        refine ug th83 hB8_52 ?_
        first | refine u_step (o_bs rfl th28 rfl th83 rfl rfl (by decide) rfl (by decide) (by decide) ?_) | refine u_step (o_bs1 rfl (by simp only [encV_width]) th28 rfl th83 rfl rfl (by decide) (by decide) ?_)
        refine u_step (g_apD2 rfl th28 rfl th83 rfl rfl (by decide) rfl hC8_52 (by simp only [List.length_map, List.length_cons, List.length_nil]; omega) (by simp only [List.length_map, List.length_cons, List.length_nil]; omega) fun o53 hb53 hk53 => ?_)
        have hB8_53 := (hk53 _ (by omega) (fun e => by have := hq _ e.symm; omega)).trans hB8_52
        have hb52_53 := (hk53 _ (by omega) (fun e => by have := hq _ e.symm; omega)).trans hb52
        refine u_step (o_assignV (v := .row _) rfl ?_)
        refine u_nil ?_
        refine hK10 _ ?_
        refine WP.reg tabOk rfl ?_
        refine um ?_
        refine ub ?_
        refine ua ?_
        refine u_nil ?_
        -- back
        refine ⟨⟨i + 1, (rdDr s1).2, ds ++ [(rdDr s1).1], .row _, some _, o53, (nk3 + 1)⟩, ⟨by omega, by omega, by have := rdDr_le s1; omega, by simp; omega, ?_, (by rw [hr]; exact hb52_53), (by rw [hr, mapD_snoc]; exact dst_row hb53), fun t e => by injection e with e; omega, (fun t ht => (hk53 t (by omega) (fun e => by have := hq _ e.symm; omega)).trans ((hk52 t (by omega)).trans ((hF8 t (by omega)).trans ((hF9 t (by omega)).trans ((hfrj t (by omega)))))))⟩, by simp only; omega, Le.al ?_⟩
        · rw [← heq, show (cntS s 64).1.toNat - i = ((cntS s 64).1.toNat - (i + 1)) + 1 by omega]; simp only [rdDlr]; rw [if_neg hbad]
        · simp only [List.forall_mem_cons]
          exact ⟨rfl, rfl, rfl, cnt (by omega), by simp⟩
       ·
        have hm : mayD (rdD3 rdAllR (rdByte s1).1 ns s2).1 = true := by rw [hd3]; simpa using hc51
        have hr := hrd.trans (spoil_yes hm)
        rw [hd3] at hr
        refine WP.skip ?_
        refine hK49 _ ?_
        refine WP.reg tabOk rfl ?_
        refine u_step (o_moveV (v := c) rfl ?_)
        refine ug th83 hB8 ?_
        first | refine u_step (o_bs rfl th28 rfl th83 rfl rfl (by decide) rfl (by decide) (by decide) ?_) | refine u_step (o_bs1 rfl (by simp only [encV_width]) th28 rfl th83 rfl rfl (by decide) (by decide) ?_)
        refine u_step (g_apD2 rfl th28 rfl th83 rfl rfl (by decide) rfl hC8 (by simp only [List.length_map, List.length_cons, List.length_nil]; omega) (by simp only [List.length_map, List.length_cons, List.length_nil]; omega) fun o54 hb54 hk54 => ?_)
        have hM8_54 := (hk54 _ (by omega) (fun e => by have := hq _ e.symm; omega)).trans hM8
        have hB8_54 := (hk54 _ (by omega) (fun e => by have := hq _ e.symm; omega)).trans hB8
        refine u_step (o_assignV (v := .row _) rfl ?_)
        refine u_nil ?_
        refine hK10 _ ?_
        refine WP.reg tabOk rfl ?_
        refine um ?_
        refine ub ?_
        refine ua ?_
        refine u_nil ?_
        -- back
        refine ⟨⟨i + 1, (rdDr s1).2, ds ++ [(rdDr s1).1], .row _, some _, o54, (nk3 + 1)⟩, ⟨by omega, by omega, by have := rdDr_le s1; omega, by simp; omega, ?_, (by rw [hr]; exact hM8_54), (by rw [hr, mapD_snoc]; exact dst_row hb54), fun t e => by injection e with e; omega, (fun t ht => (hk54 t (by omega) (fun e => by have := hq _ e.symm; omega)).trans ((hF8 t (by omega)).trans ((hF9 t (by omega)).trans ((hfrj t (by omega))))))⟩, by simp only; omega, Le.al ?_⟩
        · rw [← heq, show (cntS s 64).1.toNat - i = ((cntS s 64).1.toNat - (i + 1)) + 1 by omega]; simp only [rdDlr]; rw [if_neg hbad]
        · simp only [List.forall_mem_cons]
          exact ⟨rfl, rfl, rfl, cnt (by omega), by simp⟩
   ·
    refine ⟨by omega, by omega, by omega, by simp, rfl, hb16, hb14_16, hd_16, rfl, by simp, (fun t ht => (hk16 t (by omega)).trans ((hk14 t (by omega)).trans ((hk13 t (by omega)).trans ((hk12 t (by omega)).trans ((hfr t (by omega)))))))⟩
   ·
    refine Le.al ?_
    simp only [List.forall_mem_cons]
    exact ⟨rfl, rfl, rfl, rfl, rfl, rfl, rfl, by simp⟩
  ·
   have hfin : rdDlr (cntS s 64).1.toNat (cntS s 64).2 [] = (ds, s1) := by
     rw [← heq]
     by_cases hz : s1.2 = true
     · exact rdDlr_bad hz
     · have hge : (cntS s 64).1.toNat - i = 0 := by (have hgo := hc9; simp [hz] at hgo; omega)
       rw [hge]; rfl
   have hrd : rdDsR s = rdDq (ds, s1) := by unfold rdDsR; rw [hfin]
   refine WP.exit ?_
   refine hK5 _ ?_
   refine WP.seq fun K55 hK55 => ?_
   refine wr ?_
   refine u_step (o_moveV (v := .loc _ _) rfl ?_)
   refine u_step (o_nc rfl hsk ?_)
   refine uf th63 th4 hsk ?_
   refine ul th4 hsk ?_
   refine u_nil ?_
   refine wc (fun hc57 => ?_) (fun hc57 => ?_) <;> try simp only [Q0, Q1, Q2, Q3, Q4, Q5, Q6, Q7, Q8, ge_iff_le, gt_iff_lt] at hc57
   ·
    have hr : rdDsR s = ([], s1) := hrd.trans (rdDq_no (by simpa using hc57))
    refine wr ?_
    refine ua ?_
    refine u_nil ?_
    refine WP.ret ?_
    refine retMW_ok rfl ?_ (by omega) (by rw [hr]; exact hsk) (fun t ht => (hfr t (by omega)))
    rw [hr]; exact rfl
   ·
    have hr : rdDsR s = (ds, s1) := hrd.trans (rdDq_ok (by simpa using hc57))
    refine WP.skip ?_
    refine hK55 _ ?_
    refine WP.frzS (fun y => [(0, .loc k 0), (4, .d y)]) nk hd (fun t h1 h2 => by subst h2; simp only [List.forall_mem_cons]; exact ⟨rfl, (show SV.frz t (.sl 8 (ds.map encD)) (.row t) = _ from if_pos rfl), by simp⟩) (fun h2 => by subst h2; simp only [List.forall_mem_cons]; exact ⟨rfl, rfl, by simp⟩) fun y o9 hy hk9 => ?_
    have hF9 : ∀ t, t < nk → o9 t = o2 t := fun t ht => hk9 t ht (fun h => by have := hq t h; omega)
    have hM9 := (hF9 _ hkn).trans hsk
    refine wr ?_
    refine um ?_
    refine ua ?_
    refine u_nil ?_
    refine WP.ret ?_
    refine retMW_ok rfl ?_ (by omega) (by rw [hr]; exact hM9) (fun t ht => (hF9 t (by omega)).trans ((hfr t (by omega))))
    rw [hr]; exact hy
 ·
  refine ⟨by omega, by omega, by omega, by simp, rfl, hb3, rfl, by simp, (fun t ht => (hk3 t (by omega)))⟩
 ·
  refine Le.al ?_
  simp only [List.forall_mem_cons]
  exact ⟨rfl, rfl, rfl, rfl, by simp⟩

end Go.Proofs.YtpkcbdhjnnnkbaaGreat.Abs

set_option linter.unusedVariables false
set_option linter.unusedSimpArgs false
set_option maxRecDepth 10000
set_option maxHeartbeats 1000000
namespace Go.Proofs.YtpkcbdhjnnnkbaaGreat.Abs
open Go
theorem rdTs_bad : ∀ (n : Nat) {s : SB} (ns : List Str), s.2 = true → (rdTs n s ns).2.2 = true
  | 0, s, ns, h => h
  | n + 1, s, ns, h => rdTs_bad n _ (by rw [txt_bad2 h])
theorem rdTs_q : ∀ (n : Nat) (s : SB) (ns : List Str), (rdTs n s ns).2.2 = (rdTr n s ns).2.2 ∧ ((rdTs n s ns).2.2 = false → rdTs n s ns = rdTr n s ns)
  | 0, s, ns => ⟨rfl, fun _ => rfl⟩
  | n + 1, s, ns => by
    by_cases hb : s.2 = true
    · have h1 := rdTs_bad (n + 1) ns hb
      rw [rdTr_bad hb]
      exact ⟨h1.trans hb.symm, fun e => by rw [h1] at e; cases e⟩
    · simp only [rdTs, rdTr]; rw [if_neg hb]
      exact rdTs_q n _ _
theorem cnt_bad3 {s : SB} {m : Int} (h : s.2 = true) : (cntS s m).2.2 = true := by rw [cnt_bad2 h]
theorem rdAllB {s : SB} (h : s.2 = true) : (rdAll s).2.2 = true := by rw [rdAll_bad h]
theorem rdAllRB {s : SB} (h : s.2 = true) : (rdAllR s).2.2 = true := by rw [rdAllR_bad h]; exact h
theorem rdD3_bad {rv : SB → Val × SB} (hv : ∀ s, s.2 = true → (rv s).2.2 = true) {k : Int} {ns : List Str} {s : SB} (h : s.2 = true) : (rdD3 rv k ns s).2.2 = true := by
  unfold rdD3; split
  · exact hv s h
  · split
    · exact cnt_bad3 h
    · exact h
theorem spoil_bad {p : Dlt × SB} (h : p.2.2 = true) : (spoilD p).2.2 = true := by unfold spoilD; simp only; split <;> simp [h]
theorem spoil_q {d : Dlt} {a b : SB} (h : SBq a b) : (spoilD (d, a)).1 = (spoilD (d, b)).1 ∧ SBq (spoilD (d, a)).2 (spoilD (d, b)).2 := by
  refine ⟨rfl, ?_⟩
  unfold spoilD; simp only
  split
  · exact h
  · exact SBq.bad rfl rfl
theorem rdD3_q (k : Int) (ns : List Str) (s : SB) : ∃ d a b, rdD3 rdAll k ns s = (d, a) ∧ rdD3 rdAllR k ns s = (d, b) ∧ SBq a b := by
  unfold rdD3; split
  · have h := rdAll_q s
    exact ⟨_, _, _, rfl, by rw [h.1], h.2⟩
  · split
    · exact ⟨_, _, _, rfl, rfl, SBq.refl _⟩
    · exact ⟨_, _, _, rfl, rfl, SBq.refl _⟩
theorem rdDl_bad {s : SB} (h : s.2 = true) : (rdDl s).2.2 = true := by
  unfold rdDl
  exact spoil_bad (rdD3_bad (fun _ => rdAllB) (rdTs_bad _ _ (cnt_bad3 (byte_bad h))))
theorem rdDl_q (s : SB) : (rdDl s).2.2 = (rdDr s).2.2 ∧ ((rdDl s).2.2 = false → rdDl s = rdDr s) := by
  have hp := rdTs_q (cntS (rdByte s).2 8).1.toNat (cntS (rdByte s).2 8).2 []
  cases hz : (rdTs (cntS (rdByte s).2 8).1.toNat (cntS (rdByte s).2 8).2 []).2.2 with
  | true =>
    have h1 : (rdDl s).2.2 = true := by unfold rdDl; exact spoil_bad (rdD3_bad (fun _ => rdAllB) hz)
    have h2 : (rdDr s).2.2 = true := by unfold rdDr; exact spoil_bad (rdD3_bad (fun _ => rdAllRB) (hp.1 ▸ hz))
    exact ⟨h1.trans h2.symm, fun e => by rw [h1] at e; cases e⟩
  | false =>
    have he := hp.2 hz
    unfold rdDl rdDr
    rw [← he]
    obtain ⟨d, a, b, h1, h2, h3⟩ := rdD3_q (rdByte s).1 (rdTs (cntS (rdByte s).2 8).1.toNat (cntS (rdByte s).2 8).2 []).1 (rdTs (cntS (rdByte s).2 8).1.toNat (cntS (rdByte s).2 8).2 []).2
    rw [h1, h2]
    have h4 := spoil_q (d := d) h3
    exact ⟨h4.2.1, fun e => Prod.ext h4.1 (h4.2.2 e)⟩
theorem rdDls_bad : ∀ (n : Nat) {s : SB} (ds : List Dlt), s.2 = true → (rdDls n s ds).2.2 = true
  | 0, s, ds, h => h
  | n + 1, s, ds, h => rdDls_bad n _ (rdDl_bad h)
theorem rdDls_q : ∀ (n : Nat) (s : SB) (ds : List Dlt), (rdDls n s ds).2.2 = (rdDlr n s ds).2.2 ∧ ((rdDls n s ds).2.2 = false → rdDls n s ds = rdDlr n s ds)
  | 0, s, ds => ⟨rfl, fun _ => rfl⟩
  | n + 1, s, ds => by
    by_cases hb : s.2 = true
    · have h1 := rdDls_bad (n + 1) ds hb
      rw [rdDlr_bad hb]
      exact ⟨h1.trans hb.symm, fun e => by rw [h1] at e; cases e⟩
    · have hq := rdDl_q s
      simp only [rdDls, rdDlr]; rw [if_neg hb]
      cases hz : (rdDl s).2.2 with
      | true =>
        have h1 := rdDls_bad n (if true = true then ds else ds ++ [(rdDl s).1]) hz
        rw [rdDlr_bad (hq.1 ▸ hz)]
        exact ⟨h1.trans (hq.1 ▸ hz).symm, fun e => by rw [h1] at e; cases e⟩
      | false =>
        rw [if_neg (by decide), hq.2 hz]
        exact rdDls_q n _ _
theorem rdDq_q {a b : List Dlt × SB} (h : a.2.2 = b.2.2 ∧ (a.2.2 = false → a = b)) : (rdDq a).1 = (rdDq b).1 ∧ SBq (rdDq a).2 (rdDq b).2 := by
  cases hz : a.2.2 with
  | true =>
    rw [rdDq_no hz, rdDq_no (h.1 ▸ hz)]
    exact ⟨rfl, SBq.bad hz (h.1 ▸ hz)⟩
  | false => rw [h.2 hz]; exact ⟨rfl, SBq.refl _⟩
/-- Deltas: the same answer, and the sources alike. -/
theorem rdDs_q {a b : SB} (h : SBq a b) : (rdDsP a).1 = (rdDsR b).1 ∧ SBq (rdDsP a).2 (rdDsR b).2 := by
  rcases h.cases with rfl | ⟨ha, hb⟩
  · exact rdDq_q (rdDls_q _ _ _)
  · have h1 := rdDls_bad (cntS a 64).1.toNat [] (cnt_bad3 (m := 64) ha)
    have h2 : (rdDlr (cntS b 64).1.toNat (cntS b 64).2 []).2.2 = true := by rw [rdDlr_bad (cnt_bad3 hb)]; exact cnt_bad3 hb
    unfold rdDsP rdDsR
    rw [rdDq_no h1, rdDq_no h2]
    exact ⟨rfl, SBq.bad h1 h2⟩
theorem rdDls_le : ∀ (n : Nat) (s : SB) (ds : List Dlt), (rdDls n s ds).2.1.length ≤ s.1.length
  | 0, s, ds => Nat.le_refl _
  | n + 1, s, ds => Nat.le_trans (rdDls_le n _ _) (rdDl_le s)
theorem rdDlr_le : ∀ (n : Nat) (s : SB) (ds : List Dlt), (rdDlr n s ds).2.1.length ≤ s.1.length
  | 0, s, ds => Nat.le_refl _
  | n + 1, s, ds => by
    simp only [rdDlr]; split
    · exact Nat.le_refl _
    · exact Nat.le_trans (rdDlr_le n _ _) (rdDr_le s)
theorem rdDsP_le (s : SB) : (rdDsP s).2.1.length ≤ s.1.length := Nat.le_trans (rdDls_le _ _ _) (cnt_le _ _)
theorem rdDsR_le (s : SB) : (rdDsR s).2.1.length ≤ s.1.length := Nat.le_trans (rdDlr_le _ _ _) (cnt_le _ _)
end Go.Proofs.YtpkcbdhjnnnkbaaGreat.Abs

set_option linter.unusedVariables false
set_option linter.unusedSimpArgs false
set_option maxRecDepth 10000
namespace Go.Proofs.YtpkcbdhjnnnkbaaGreat.Abs
open Go
end Go.Proofs.YtpkcbdhjnnnkbaaGreat.Abs

set_option linter.unusedVariables false
set_option linter.unusedSimpArgs false
set_option maxRecDepth 10000
namespace Go.Proofs.YtpkcbdhjnnnkbaaGreat.Abs
open Go
def hasC (k : Int) : Bool := decide (2 ≤ k) && decide (k ≤ 7)
def hasT (k : Int) : Bool := decide (k = 7)
def hasI (k : Int) : Bool := decide (k = 2) || decide (k = 3) || decide (k = 4)
def hasD (k : Int) : Bool := decide (k = 2)
def hasS (k : Int) : Bool := decide (k = 3)
structure Bits (k : Int) : Prop where
  t1 : (bitsOf .and .i64 (fieldsV k) 2 != 0) = hasT k
  t0 : (bitsOf .and .i64 (fieldsV k) 2 == 0) = !hasT k
  c1 : (bitsOf .and .i64 (fieldsV k) 1 != 0) = hasC k
  c0 : (bitsOf .and .i64 (fieldsV k) 1 == 0) = !hasC k
  i1 : (bitsOf .and .i64 (fieldsV k) 4 != 0) = hasI k
  i0 : (bitsOf .and .i64 (fieldsV k) 4 == 0) = !hasI k
  d1 : (bitsOf .and .i64 (fieldsV k) 8 != 0) = hasD k
  d0 : (bitsOf .and .i64 (fieldsV k) 8 == 0) = !hasD k
  s1 : (bitsOf .and .i64 (fieldsV k) 16 != 0) = hasS k
  s0 : (bitsOf .and .i64 (fieldsV k) 16 == 0) = !hasS k
structure OkE (e : Etr) : Prop where
  ri : rngV e.id
  si : szV e.id ≤ 1099511627776
  rd : rngV e.doc
  sd : szV e.doc ≤ 1099511627776
  ds : e.deltas.length ≤ 64 → ∀ d ∈ e.deltas, okD d
end Go.Proofs.YtpkcbdhjnnnkbaaGreat.Abs

set_option linter.unusedVariables false
set_option linter.unusedSimpArgs false
set_option maxRecDepth 10000
namespace Go.Proofs.YtpkcbdhjnnnkbaaGreat.Abs
open Go
end Go.Proofs.YtpkcbdhjnnnkbaaGreat.Abs

set_option linter.unusedVariables false
set_option linter.unusedSimpArgs false
set_option maxRecDepth 10000
namespace Go.Proofs.YtpkcbdhjnnnkbaaGreat.Abs
open Go
theorem pvv {P : Program} {f : FuncId} {v w : Val} {r : SV} (h : PSpec P f [.d (encV v), .d (encV w)] r) : PSpec P f [.d (.agg (valCells v)), .d (.agg (valCells w))] r := by rw [← encV_eq, ← encV_eq]; exact h
theorem dlt_same {x y : Dlt} : (x.kind != y.kind || x.n != y.n || !decide (x.path = y.path) || !sameV x.value y.value) = true ↔ ¬ x = y := by
  cases x; cases y
  simp only [Dlt.mk.injEq, Bool.or_eq_true, bne_iff_ne, Bool.not_eq_true', decide_eq_false_iff_not, ← Bool.not_eq_true, same_eq, ne_eq]
  grind
open Classical in
noncomputable def sameDs (a b : List Dlt) : Bool := decide (a = b)
open Classical in
theorem sameDs_ne {a b : List Dlt} (h : ¬ a = b) : sameDs a b = false := by simp [sameDs, h]
theorem sameDs_iff {a b : List Dlt} : sameDs a b = true ↔ a = b := by simp [sameDs]
@[simp] theorem vc_len (v : Val) : (valCells v).length = 5 := by cases v; rfl
theorem fn37 : FnOk Tryz.prog 37 69 [4] (bodyOf Tryz.f37) := ⟨Tryz.f37, Tryz.func37, by kernel_rfl, by decide, by kernel_rfl, by kernel_rfl⟩
theorem s37 (a b : List Dlt) : PSpec Tryz.prog 37 [.d (.sl 8 (a.map encD)), .d (.sl 8 (b.map encD))] (.d (.bool (sameDs a b))) := by
 refine PSpec.bd fun hbd => ?_
 have hx : a.length ≤ 9223372036854775807 := by simpa using hbd.1.1
 refine PSpec.of fn37 (by simp) fun o nk => ?_
 refine wr ?_
 refine ua ?_
 refine u_nil ?_
 refine WP.seq fun K2 hK2 => ?_
 refine wr ?_
 refine um ?_
 refine un th28 ?_
 refine um ?_
 refine un th28 ?_
 refine ub ?_
 refine u_nil ?_
 refine wc (fun hc4 => ?_) (fun hc4 => ?_) <;> try simp only [Q0, Q1, Q2, Q3, Q4, Q5, Q6, Q7, Q8, ge_iff_le, gt_iff_lt] at hc4
 ·
  refine wr ?_
  refine ua ?_
  refine u_nil ?_
  refine WP.ret ?_
  refine ret_ok rfl ?_ (by omega) (fun _ _ => rfl)
  -- ret 1
  refine congrArg D.bool (sameDs_ne ?_).symm
  rintro rfl
  have hl := hc4
  simp at hl
 ·
  have hab : a.length = b.length := by have := hc4; (try simp at this); omega
  refine WP.skip ?_
  refine hK2 _ ?_
  refine WP.seq fun K6 hK6 => ?_
  refine wr ?_
  refine ua ?_
  refine u_nil ?_
  refine WP.block ?_
  refine WP.loopL (ι := Nat) (fun i => ⟨al [(0, .d (.sl 8 (a.map encD))), (1, .d (.sl 8 (b.map encD))), (5, .d (.int .i64 i))], o, nk⟩) (fun i => i ≤ a.length ∧ ∀ (j : Nat) (hj : j < a.length) (hk : j < b.length), j < i → a[j] = b[j]) (fun i => a.length - i) (fun i hA => ?_) 0 ?_ ?_
  ·
   obtain ⟨hle_i, hin_i⟩ := hA
   refine WP.seq fun K8 hK8 => ?_
   refine wr ?_
   refine um ?_
   refine um ?_
   refine un th28 ?_
   refine ub ?_
   refine u_nil ?_
   refine wc (fun hc10 => ?_) (fun hc10 => ?_) <;> try simp only [Q0, Q1, Q2, Q3, Q4, Q5, Q6, Q7, Q8, ge_iff_le, gt_iff_lt] at hc10
   ·
    have hil : i < a.length := by have := hc10; (try simp at this); omega
    have hil2 : i < b.length := by omega
    refine WP.skip ?_
    refine hK8 _ ?_
    refine WP.seq fun K11 hK11 => ?_
    refine WP.block ?_
    refine wd ?_
    refine dm ?_
    refine dm ?_
    first | refine d_step (o_ia_map rfl rfl th28 rfl th83 rfl (by omega) ⟨rfl, rfl, rfl⟩) ?_ | refine d_step (o_ia_vs rfl rfl th28 rfl th83 rfl (by omega) ⟨rfl, rfl, rfl⟩) ?_
    refine dF th83 th3 ?_
    refine dL th3 ?_
    refine dm ?_
    refine dm ?_
    first | refine d_step (o_ia_map rfl rfl th28 rfl th83 rfl (by omega) ⟨rfl, rfl, rfl⟩) ?_ | refine d_step (o_ia_vs rfl rfl th28 rfl th83 rfl (by omega) ⟨rfl, rfl, rfl⟩) ?_
    refine dF th83 th3 ?_
    refine dL th3 ?_
    refine db ?_
    refine dm ?_
    apply d_guard
    · exact GC.f _
    · intro hg
      exact pm
    apply d_guard
    · exact GC.f _
    · intro hg
      exact pm
    apply d_guard
    · exact GC.f _
    · intro hg; try simp only [hg, ct]; try simp only [hg, ct, Bt]
      have hg2 := hg; try simp only [Q0, Q1, Q2, Q3, Q4, Q5, Q6, Q9, Qa, Qb, Qc, Qd] at hg2
      first | refine o_ia_map rfl rfl th28 rfl th83 rfl (by omega) ⟨rfl, rfl, rfl⟩ | refine o_ia_vs rfl rfl th28 rfl th83 rfl (by omega) ⟨rfl, rfl, rfl⟩
    apply d_guard
    · exact GC.f _
    · intro hg; try simp only [hg, ct]; try simp only [hg, ct, Bt]
      exact pF th83 th3
    apply d_guard
    · exact GC.f _
    · intro hg; try simp only [hg, ct]; try simp only [hg, ct, Bt]
      exact pL th3
    apply d_guard
    · exact GC.f _
    · intro hg
      exact pm
    apply d_guard
    · exact GC.f _
    · intro hg
      exact pm
    apply d_guard
    · exact GC.f _
    · intro hg; try simp only [hg, ct]; try simp only [hg, ct, Bt]
      have hg2 := hg; try simp only [Q0, Q1, Q2, Q3, Q4, Q5, Q6, Q9, Qa, Qb, Qc, Qd] at hg2
      first | refine o_ia_map rfl rfl th28 rfl th83 rfl (by omega) ⟨rfl, rfl, rfl⟩ | refine o_ia_vs rfl rfl th28 rfl th83 rfl (by omega) ⟨rfl, rfl, rfl⟩
    apply d_guard
    · exact GC.f _
    · intro hg; try simp only [hg, ct]; try simp only [hg, ct, Bt]
      exact pF th83 th3
    apply d_guard
    · exact GC.f _
    · intro hg; try simp only [hg, ct]; try simp only [hg, ct, Bt]
      exact pL th3
    apply d_guard
    · exact GC.f _
    · intro hg; try simp only [hg, ct]; try simp only [hg, ct, Bt]
      exact pb
    refine dO ?_
    refine dm ?_
    apply d_guard
    · exact GC.f _
    · intro hg
      exact pm
    apply d_guard
    · exact GC.f _
    · intro hg
      exact pm
    apply d_guard
    · exact GC.f _
    · intro hg; try simp only [hg, ct]; try simp only [hg, ct, Bt]
      have hg2 := hg; try simp only [Q0, Q1, Q2, Q3, Q4, Q5, Q6, Q9, Qa, Qb, Qc, Qd] at hg2
      first | refine o_ia_map rfl rfl th28 rfl th83 rfl (by omega) ⟨rfl, rfl, rfl⟩ | refine o_ia_vs rfl rfl th28 rfl th83 rfl (by omega) ⟨rfl, rfl, rfl⟩
    apply d_guard
    · exact GC.f _
    · intro hg; try simp only [hg, ct]; try simp only [hg, ct, Bt]
      exact pF th83 th22
    apply d_guard
    · exact GC.f _
    · intro hg; try simp only [hg, ct]; try simp only [hg, ct, Bt]
      exact pL th22
    apply d_guard
    · exact GC.f _
    · intro hg
      exact pm
    apply d_guard
    · exact GC.f _
    · intro hg
      exact pm
    apply d_guard
    · exact GC.f _
    · intro hg; try simp only [hg, ct]; try simp only [hg, ct, Bt]
      have hg2 := hg; try simp only [Q0, Q1, Q2, Q3, Q4, Q5, Q6, Q9, Qa, Qb, Qc, Qd] at hg2
      first | refine o_ia_map rfl rfl th28 rfl th83 rfl (by omega) ⟨rfl, rfl, rfl⟩ | refine o_ia_vs rfl rfl th28 rfl th83 rfl (by omega) ⟨rfl, rfl, rfl⟩
    apply d_guard
    · exact GC.f _
    · intro hg; try simp only [hg, ct]; try simp only [hg, ct, Bt]
      exact pF th83 th22
    apply d_guard
    · exact GC.f _
    · intro hg; try simp only [hg, ct]; try simp only [hg, ct, Bt]
      exact pL th22
    apply d_guard
    · exact GC.f _
    · intro hg; try simp only [hg, ct]; try simp only [hg, ct, Bt]
      refine o_pcall (s91 (a[i].path) (b[i].path)) rfl ⟨rfl, rfl, rfl⟩
    apply d_guard
    · exact GC.f _
    · intro hg; try simp only [hg, ct]; try simp only [hg, ct, Bt]
      exact pN
    refine dO ?_
    refine dm ?_
    apply d_guard
    · exact GC.f _
    · intro hg
      exact pm
    apply d_guard
    · exact GC.f _
    · intro hg
      exact pm
    apply d_guard
    · exact GC.f _
    · intro hg; try simp only [hg, ct]; try simp only [hg, ct, Bt]
      have hg2 := hg; try simp only [Q0, Q1, Q2, Q3, Q4, Q5, Q6, Q9, Qa, Qb, Qc, Qd] at hg2
      first | refine o_ia_map rfl rfl th28 rfl th83 rfl (by omega) ⟨rfl, rfl, rfl⟩ | refine o_ia_vs rfl rfl th28 rfl th83 rfl (by omega) ⟨rfl, rfl, rfl⟩
    apply d_guard
    · exact GC.f _
    · intro hg; try simp only [hg, ct]; try simp only [hg, ct, Bt]
      exact pF th83 th27
    apply d_guard
    · exact GC.f _
    · intro hg; try simp only [hg, ct]; try simp only [hg, ct, Bt]
      exact pL th27
    apply d_guard
    · exact GC.f _
    · intro hg
      exact pm
    apply d_guard
    · exact GC.f _
    · intro hg
      exact pm
    apply d_guard
    · exact GC.f _
    · intro hg; try simp only [hg, ct]; try simp only [hg, ct, Bt]
      have hg2 := hg; try simp only [Q0, Q1, Q2, Q3, Q4, Q5, Q6, Q9, Qa, Qb, Qc, Qd] at hg2
      first | refine o_ia_map rfl rfl th28 rfl th83 rfl (by omega) ⟨rfl, rfl, rfl⟩ | refine o_ia_vs rfl rfl th28 rfl th83 rfl (by omega) ⟨rfl, rfl, rfl⟩
    apply d_guard
    · exact GC.f _
    · intro hg; try simp only [hg, ct]; try simp only [hg, ct, Bt]
      exact pF th83 th27
    apply d_guard
    · exact GC.f _
    · intro hg; try simp only [hg, ct]; try simp only [hg, ct, Bt]
      exact pL th27
    apply d_guard
    · exact GC.f _
    · intro hg; try simp only [hg, ct]; try simp only [hg, ct, Bt]
      refine o_pcall (pvv (s30 a[i].value b[i].value)) rfl ⟨rfl, rfl, rfl⟩
    apply d_guard
    · exact GC.f _
    · intro hg; try simp only [hg, ct]; try simp only [hg, ct, Bt]
      exact pN
    refine dO ?_
    refine d_nil ?_
    refine wc (fun hc13 => ?_) (fun hc13 => ?_) <;> try simp only [Q0, Q1, Q2, Q3, Q4, Q5, Q6, Q7, Q8, ge_iff_le, gt_iff_lt] at hc13
    ·
     refine wr ?_
     refine ua ?_
     refine u_nil ?_
     refine WP.ret ?_
     refine ret_ok rfl ?_ (by omega) (fun _ _ => rfl)
     -- ret 2
     refine congrArg D.bool (sameDs_ne ?_).symm
     rintro rfl
     have hl := hc13
     exact absurd rfl (dlt_same.1 hl)
    ·
     refine WP.skip ?_
     refine hK11 _ ?_
     refine WP.reg tabOk rfl ?_
     refine um ?_
     refine ub ?_
     refine ua ?_
     refine u_nil ?_
     -- back
     refine ⟨i + 1, ⟨by omega, ?_⟩, by omega, ?_⟩
     · intro j hj hk h1
       by_cases h2 : j = i
       · subst h2; have hl := hc13; exact Classical.byContradiction fun hne => by rw [dlt_same.2 hne] at hl; cases hl
       · exact hin_i j hj hk (by omega)
     · refine Le.al ?_
       simp only [List.forall_mem_cons]
       exact ⟨rfl, rfl, cnt (by omega), by simp⟩
   ·
    refine WP.exit ?_
    refine hK6 _ ?_
    refine wr ?_
    refine ua ?_
    refine u_nil ?_
    refine WP.ret ?_
    refine ret_ok rfl ?_ (by omega) (fun _ _ => rfl)
    -- ret 3
    refine congrArg D.bool ?_
    exact (sameDs_iff.2 (List.ext_getElem hab fun j h1 h2 => hin_i j h1 h2 (by omega))).symm
  ·
   simp
  ·
   refine Le.al ?_
   simp only [List.forall_mem_cons]
   exact ⟨rfl, rfl, rfl, by simp⟩

end Go.Proofs.YtpkcbdhjnnnkbaaGreat.Abs

/- A run of code that is computed: loops, calls. -/
set_option linter.unusedVariables false
set_option linter.unusedSimpArgs false
namespace Go.Proofs.YtpkcbdhjnnnkbaaGreat.Abs
open Go

section
variable (Θ : Tab) (nofr : Nat → Bool) (call : Nat → List SV → TM AO → Nat → Option XR)
/-- Rows that a drawn region's calls are handed. -/
def preD (l : List Oper) (s : XS) : List Nat := l.flatMap fun op => preF nofr op.op s
def postD (l : List Oper) (s : XS) : List Nat := l.flatMap fun op => postF op.op s
def xDrawF (ops : Array Oper) (s : XS) : Option XS :=
  match s.frzs (preD nofr ops.toList s) with
  | s1 => match xDraw Θ call ops s1 with
    | some s' => some s'
    | none => match xDraw Θ call ops ((s1.frzs (postD ops.toList s1)).soft) with
      | some s' => some s'
      | none => match xDrawP Θ call ops s1 with
        | some s' => some s'
        | none => xDrawP Θ call ops ((s1.frzs (postD ops.toList s1)).soft)
end

/-- The results of a body. -/
def xRes (Θ : Tab) : List ResultVar → XS → Option (List SV × XS)
  | [], s => some ([], s)
  | .tmp t :: r, s => match xRes Θ r s with
    | none => none
    | some (vs, s') => match s'.sl.get t with
      | none => some (.any :: vs, s')
      | some v => some (v :: vs, s')
  | .cell a t :: r, s => match xRes Θ r s with
    | none => none
    | some (vs, s') => match s'.sl.get a with
      | some (.loc k f) => match xld Θ s'.o.get t (.loc k f) with
        | some v => some (v :: vs, s')
        | none => none
      | _ => none
def cellsR (s : XS) : List ResultVar → List Nat
  | [] => []
  | .tmp _ :: r => cellsR s r
  | .cell a _ :: r => (match s.sl.get a with
    | some c => rowsO s.o c
    | none => []) ++ cellsR s r
theorem xRes_ok {Θ : Tab} : ∀ {rs : List ResultVar} {s s' : XS} {vs : List SV}, xRes Θ rs s = some (vs, s') → s' = s ∧ ResL Θ s.st rs vs
  | [], s, s', vs, h => by
    simp only [xRes, Option.some.injEq, Prod.mk.injEq] at h
    obtain ⟨rfl, rfl⟩ := h
    exact ⟨rfl, trivial⟩
  | .tmp t :: r, s, s', vs, h => by
    simp only [xRes] at h
    split at h
    · cases h
    · rename_i vs1 s1 h1
      obtain ⟨rfl, h2⟩ := xRes_ok h1
      split at h
      · rename_i hg
        simp only [Option.some.injEq, Prod.mk.injEq] at h
        obtain ⟨rfl, rfl⟩ := h
        exact ⟨rfl, (by show SV.any = (s1.sl.get t).getD .any; rw [hg]; rfl), h2⟩
      · rename_i v hg
        simp only [Option.some.injEq, Prod.mk.injEq] at h
        obtain ⟨rfl, rfl⟩ := h
        exact ⟨rfl, (by show v = (s1.sl.get t).getD .any; rw [hg]; rfl), h2⟩
  | .cell a t :: r, s, s', vs, h => by
    simp only [xRes] at h
    split at h
    · cases h
    · rename_i vs1 s1 h1
      obtain ⟨rfl, h2⟩ := xRes_ok h1
      split at h
      · rename_i k f hg
        split at h
        · rename_i v hv
          simp only [Option.some.injEq, Prod.mk.injEq] at h
          obtain ⟨rfl, rfl⟩ := h
          have hsl : s1.st.sl a = .loc k f := by show (s1.sl.get a).getD .any = _; rw [hg]; rfl
          refine ⟨rfl, ⟨⟨k, f, hsl⟩, ?_⟩, h2⟩
          rw [hsl]
          exact xld_ok Θ hv rfl
        · cases h
      · cases h

/-! ### calls that were run before -/
def itB : Obj → Obj → Bool
  | .stringIter a i, .stringIter b j => decide (a.data.toList = b.data.toList) && decide (i = j)
  | _, _ => false
theorem itB_ok {x y : Obj} (h : itB x y = true) : x = y := by
  unfold itB at h
  split at h
  · rename_i a i b j
    simp only [Bool.and_eq_true, decide_eq_true_eq] at h
    obtain ⟨h1, rfl⟩ := h
    obtain ⟨⟨a⟩⟩ := a
    obtain ⟨⟨b⟩⟩ := b
    simp at h1
    rw [h1]
  · cases h
def kvB : List (D × D) → List (D × D) → Bool
  | [], [] => true
  | (a, b) :: r, (c, d) :: q => D.eqb a c && (D.eqb b d && kvB r q)
  | _, _ => false
theorem kvB_ok : ∀ {x y : List (D × D)}, kvB x y = true → x = y
  | [], [], _ => rfl
  | [], _ :: _, h => by simp [kvB] at h
  | _ :: _, [], h => by simp [kvB] at h
  | (a, b) :: r, (c, d) :: q, h => by
    simp only [kvB, Bool.and_eq_true] at h
    rw [D.eqb_ok _ _ h.1, D.eqb_ok _ _ h.2.1, kvB_ok h.2.2]
def AO.eqb : AO → AO → Bool
  | .box a, .box b => SV.eqbs a b
  | .row e z xs, .row e2 z2 ys => decide (e = e2) && (decide (z = z2) && D.eqbs xs ys)
  | .raw (.ob a), .raw (.ob b) => itB a b
  | .raw (.map a), .raw (.map b) => kvB a b
  | _, _ => false
theorem AO.eqb_ok {x y : AO} (h : AO.eqb x y = true) : x = y := by
  unfold AO.eqb at h
  split at h
  · rw [SV.eqbs_ok h]
  · simp only [Bool.and_eq_true, decide_eq_true_eq] at h
    obtain ⟨rfl, rfl, h⟩ := h
    rw [D.eqbs_ok _ _ h]
  · rw [itB_ok h]
  · rw [kvB_ok h]
  · cases h
def tmB : TM AO → TM AO → Bool
  | .e, .e => true
  | .n none l r, .n none l2 r2 => tmB l l2 && tmB r r2
  | .n (some v) l r, .n (some v2) l2 r2 => AO.eqb v v2 && (tmB l l2 && tmB r r2)
  | _, _ => false
theorem tmB_ok : ∀ {x y : TM AO}, tmB x y = true → x = y
  | .e, .e, _ => rfl
  | .e, .n _ _ _, h => by simp [tmB] at h
  | .n none l r, .n none l2 r2, h => by
    simp only [tmB, Bool.and_eq_true] at h
    rw [tmB_ok h.1, tmB_ok h.2]
  | .n (some v) l r, .n (some v2) l2 r2, h => by
    simp only [tmB, Bool.and_eq_true] at h
    rw [AO.eqb_ok h.1, tmB_ok h.2.1, tmB_ok h.2.2]
  | .n none _ _, .n (some _) _ _, h => by simp [tmB] at h
  | .n (some _) _ _, .n none _ _, h => by simp [tmB] at h
  | .n (some _) _ _, .e, h => by simp [tmB] at h
  | .n none _ _, .e, h => by simp [tmB] at h
/-- A call that was run: the function, what it is handed, the objects; what comes of it. -/
structure ME where
  f : Nat
  a : List SV
  o : TM AO
  k : Nat
  r : SV
  o2 : TM AO
  k2 : Nat
/-- The functions' table, and the contracts of those that are not run. -/
structure Env where
  Θ : Tab
  tb : Nat → Option Func
  nat : Nat → List SV → Option D
  nofr : Nat → Bool
  pure : Nat → Bool
  memo : Nat → List SV → TM AO → Nat → Option XR
structure EnvOk (P : Program) (X : Env) : Prop where
  hΘ : TabOk P X.Θ
  tb : ∀ f fn, X.tb f = some fn → P.funcs[f]? = some fn ∧ (fn.name == "runtime.NumGoroutine") = false
  nat : ∀ f asx d, X.nat f asx = some d → PSpec P f asx (.d d)
  mix : P.follows .mixedOrders = true
  memo : CallOk P X.memo

def dataL : List SV → Bool
  | [] => true
  | .d _ :: r => dataL r
  | _ => false
def dataR : SV → Bool
  | .d _ => true
  | .tup xs => dataL xs
  | _ => false
/-- Rows that the results tell of. -/
def rowsR : List SV → List Nat
  | [] => []
  | .ag cs :: r => rowsL cs ++ rowsR r
  | c :: r => rowsV c ++ rowsR r
def SV.dd : SV → SV
  | .dx z xs => .d (.sl z xs)
  | .ag cs => match allD cs with
    | some ds => if ds.all D.leaf = true then .d (.agg ds) else .ag cs
    | none => .ag cs
  | c => c
theorem SR.dd {w : World} {S : Nat → Prop} {γ : Nat → Value} {o : Nat → Option AO} {c : SV} {v : Value} (hc : SR w S γ o c v) : SR w S γ o c.dd v := by
  cases c with
  | dx z xs => cases hc with
    | dx _ _ _ hr _ => exact .d _ _ hr
  | ag cs =>
    simp only [SV.dd]
    split
    · rename_i ds hds
      split
      · rename_i hl
        cases hc with
        | ag _ vs hv hr h1 =>
          have he := allD_spec hds
          subst he
          refine .d _ _ (.agg ds vs hl (by simpa using hv) fun i x u hx hu => ?_)
          have := hr i (.d x) u (by rw [List.getElem?_map, hx]; rfl) hu
          cases this with
          | d _ _ hq => exact hq
      · exact hc
    · exact hc
  | _ => exact hc
theorem SV.dd_lt {c : SV} {n : Nat} (hc : c.lt n) : c.dd.lt n := by
  cases c with
  | ag cs =>
    simp only [SV.dd]
    split
    · split
      · trivial
      · exact hc
    · exact hc
  | _ => first | exact hc | trivial
def XS.dd (s : XS) : XS := ⟨s.sl.mapT SV.dd, s.o, s.nk⟩
theorem XS.dd_ok {E : Ent} {s : XS} {a : Act} {w : World} (h : Rel E s.st a w) : Rel E s.dd.st a w := by
  obtain ⟨S, γ, h⟩ := h
  have e : ∀ u, (s.dd.st.sl u) = (s.st.sl u).dd := fun u => by
    simp only [XS.dd, XS.st, TM.get_mapT]
    cases s.sl.get u <;> rfl
  exact ⟨S, γ, h.sto, h.tr, fun u => by rw [e]; exact (h.sl u).dd, fun u => by rw [e]; exact SV.dd_lt (h.slt u), h.df, h.nn⟩
def XS.tame (Θ : Tab) (rs : List ResultVar) (s : XS) : XS :=
  match xRes Θ rs s with
  | some (vs, _) => (s.frzs (rowsR vs)).dd
  | none => s
theorem XS.tame_ok {Θ : Tab} {rs : List ResultVar} {E : Ent} {s : XS} {a : Act} {w : World} (h : Rel E s.st a w) : Rel E (s.tame Θ rs).st a w := by
  unfold XS.tame
  split
  · exact XS.dd_ok (XS.frzs_ok _ h)
  · exact h
mutual
/-- A call. One of a function that is said to be pure, with data alone, is run in an empty memory. -/
def xCall (X : Env) : Nat → Nat → List SV → TM AO → Nat → Option XR
  | 0, _, _, _, _ => none
  | m + 1, f, asx, o, nk => match X.memo f asx o nk with
    | some r => some r
    | none => match X.nat f asx with
      | some d => some (.d d, o, nk)
      | none => bif X.pure f && dataL asx then (match xBody X m true f asx .e 0 with
          | some (r, _, _) => bif dataR r then some (r, o, nk) else none
          | none => none)
        else xBody X m false f asx o nk
def xBody (X : Env) : Nat → Bool → Nat → List SV → TM AO → Nat → Option XR
  | 0, _, _, _, _, _ => none
  | m + 1, fz, f, asx, o, nk => match X.tb f with
      | none => none
      | some fn => match fn.body with
        | none => none
        | some c => bif Nat.ble asx.length fn.ntmps then match xC X m fn.ntmps c ⟨TM.ofList asx, o, nk⟩ with
            | none => none
            | some (e, s) => match (match e with
                | .normal => true
                | .ret => true
                | _ => false) with
              | false => none
              | true => match xRes X.Θ fn.results.toList (match fz with
                    | true => s.tame X.Θ fn.results.toList
                    | false => s) with
                | some (vs, s') => some (tupOf vs, s'.o, s'.nk)
                | none => match s.frzs (cellsR s fn.results.toList) with
                  | s1 => match xRes X.Θ fn.results.toList s1 with
                    | some (vs, s') => some (tupOf vs, s'.o, s'.nk)
                    | none => none
          else none
def xC (X : Env) : Nat → Nat → Code → XS → Option (Exit × XS)
  | 0, _, _, _ => none
  | m + 1, n, c, s => match c with
    | .skip => some (.normal, s)
    | .ret => some (.ret, s)
    | .exit id => some (.exit id, s)
    | .seq x y => match xC X m n x s with
      | none => none
      | some (e, s') => match e with
        | .normal => xC X m n y s'
        | e => some (e, s')
    | .block id c => match xC X m n c s with
      | none => none
      | some (e, s') => match e with
        | .exit id' => bif Nat.beq id' id then some (.normal, s') else some (.exit id', s')
        | e => some (e, s')
    | .cond x c d => match xev s x with
      | .d (.bool true) => xC X m n c s
      | .d (.bool false) => xC X m n d s
      | _ => none
    | .loop c => match xC X m n c s with
      | none => none
      | some (e, s') => match e with
        | .normal => xC X m n (.loop c) s'
        | e => some (e, s')
    | .scope c => match xC X m n c s with
      | none => none
      | some (e, s') => match e with
        | .goto _ => none
        | e => some (e, s')
    | .region _ ops drawn => bif ops.toList.all fun o => dstOk n o.dst then match drawn with
        | false => match xOps X.Θ X.nofr (xCall X m) ops ops.toList s with
          | some s' => some (.normal, s')
          | none => none
        | true => match xDrawF X.Θ X.nofr (xCall X m) ops s with
          | some s' => some (.normal, s')
          | none => none
      else none
    | _ => none
end

/-- What a run that was computed tells. -/
def Ran (P : Program) (n : Nat) (c : Code) (s : XS) (e : Exit) (s' : XS) : Prop := ∀ E a w, E.n = n → Rel E s.st a w → c.wp P (fun e2 a2 w2 => e2 = e ∧ Rel E s'.st a2 w2) a w
theorem xDrawF_ok {P : Program} {Θ : Tab} {nofr : Nat → Bool} {call : Nat → List SV → TM AO → Nat → Option XR} {n : Nat} (hΘ : TabOk P Θ) (hm : P.follows .mixedOrders = true) (hc : CallOk P call) {id : Nat} {ops : Array Oper} {s s' : XS} (hd : (ops.toList.all fun o => dstOk n o.dst) = true)
    (h : xDrawF Θ nofr call ops s = some s') : Ran P n (.region id ops true) s .normal s' := by
  have key : ∀ {s1 : XS}, xDraw Θ call ops s1 = some s' → ∀ E a w, E.n = n → Rel E s1.st a w → (Code.region id ops true).wp P (fun e2 a2 w2 => e2 = .normal ∧ Rel E s'.st a2 w2) a w := by
    intro s1 h1 E a w he hr
    have := xDraw_ok (Θ := Θ) (call := call) (P := P) (n := n) (k0 := E.nk) (Q := fun e s2 => e = .normal ∧ s2 = s'.st) (id := id) hΘ hm hc hd h1 ⟨rfl, rfl⟩ E a w he rfl hr
    exact Go.wp_mono this (by rintro e a' w' ⟨s2, h2, rfl, rfl⟩; exact ⟨rfl, h2⟩)
  have keyP : ∀ {s1 : XS}, xDrawP Θ call ops s1 = some s' → ∀ E a w, E.n = n → Rel E s1.st a w → (Code.region id ops true).wp P (fun e2 a2 w2 => e2 = .normal ∧ Rel E s'.st a2 w2) a w := by
    intro s1 h1 E a w he hr
    have := xDrawP_ok (Θ := Θ) (call := call) (P := P) (n := n) (k0 := E.nk) (Q := fun e s2 => e = .normal ∧ s2 = s'.st) (id := id) hΘ hm hc hd h1 ⟨rfl, rfl⟩ E a w he rfl hr
    exact Go.wp_mono this (by rintro e a' w' ⟨s2, h2, rfl, rfl⟩; exact ⟨rfl, h2⟩)
  intro E a w he hr
  unfold xDrawF at h
  simp only at h
  have hr1 := XS.frzs_ok (preD nofr ops.toList s) hr
  split at h
  · rename_i s2 h2
    simp only [Option.some.injEq] at h
    subst h
    exact key h2 E a w he hr1
  · split at h
    · rename_i s2 h2
      simp only [Option.some.injEq] at h
      subst h
      exact key h2 E a w he (XS.soft_ok (XS.frzs_ok _ hr1))
    · split at h
      · rename_i s2 h2
        simp only [Option.some.injEq] at h
        subst h
        exact keyP h2 E a w he hr1
      · exact keyP h E a w he (XS.soft_ok (XS.frzs_ok _ hr1))
theorem cond_bool {E : Ent} {s : XS} {a : Act} {w : World} {x : Operand} {b : Bool} (hr : Rel E s.st a w) (h : xev s x = .d (.bool b)) : a.eval x = .bool b := by
  obtain ⟨S, γ, hr⟩ := hr
  have h1 := hr.fr.ev x
  rw [← xev_eq, h] at h1
  generalize a.eval x = u at h1
  cases h1 with
  | d _ _ h2 => cases h2; rfl
theorem xC_loop {P : Program} {X : Env} : ∀ (m : Nat), (∀ k, k < m → ∀ n c s e s', xC X k n c s = some (e, s') → Ran P n c s e s') → ∀ n c s e s', xC X m n (.loop c) s = some (e, s') → ∀ E, E.n = n →
    ∃ k, ∀ a w, Rel E s.st a w → Code.rounds P c (fun e2 a2 w2 => e2 = e ∧ Rel E s'.st a2 w2) k a w
  | 0, _, n, c, s, e, s', h, _, _ => by simp [xC] at h
  | m + 1, ih, n, c, s, e, s', h, E, he => by
    simp only [xC] at h
    cases hb : xC X m n c s with
    | none => rw [hb] at h; cases h
    | some p =>
      obtain ⟨e1, s1⟩ := p
      rw [hb] at h
      have h1 := ih m (by omega) _ _ _ _ _ hb E
      cases e1 with
      | normal =>
        simp only at h
        obtain ⟨k, hk⟩ := xC_loop m (fun k hk => ih k (by omega)) n c s1 e s' h E he
        refine ⟨k + 1, fun a w hr => Go.wp_mono (h1 a w he hr) ?_⟩
        rintro e2 a2 w2 ⟨rfl, h2⟩
        exact hk a2 w2 h2
      | _ =>
        simp only [Option.some.injEq, Prod.mk.injEq] at h
        obtain ⟨rfl, rfl⟩ := h
        refine ⟨1, fun a w hr => Go.wp_mono (h1 a w he hr) ?_⟩
        rintro e2 a2 w2 ⟨rfl, h2⟩
        exact ⟨rfl, h2⟩
theorem of_list_st (asx : List SV) (o : TM AO) (nk : Nat) : (XS.mk (TM.ofList asx) o nk).st = { sl := slots asx, o := o.get, nk := nk } := by
  simp only [XS.st, St.mk.injEq, and_true]
  funext u
  rw [TM.get_ofList]
  simp [slots]
theorem ret_res {P : Program} {Θ : Tab} {E : Ent} {s s2 : XS} {rs : List ResultVar} {vs : List SV} {e : Exit} {a : Act} {w : World} (he : e = .normal ∨ e = .ret) (h : xRes Θ rs s = some (vs, s2)) (hr : Rel E s.st a w) :
    ∃ s3, Rel E s3 a w ∧ retC Θ rs (fun r2 o2 n2 => r2 = tupOf vs ∧ o2 = s2.o.get ∧ n2 = s2.nk) e s3 := by
  obtain ⟨rfl, h2⟩ := xRes_ok h
  refine ⟨_, hr, ?_⟩
  rcases he with rfl | rfl <;> exact ⟨vs, h2, rfl, rfl, rfl⟩
/-! ### runs from nothing -/
theorem dataL_d : ∀ {asx : List SV}, dataL asx = true → ∀ (i : Nat) (c : SV), asx[i]? = some c → ∃ x, c = .d x
  | [], _, i, c, h => by simp at h
  | .d x :: r, _, 0, c, h => by simp at h; exact ⟨x, h.symm⟩
  | .d x :: r, hd, i + 1, c, h => dataL_d (asx := r) (by simpa [dataL] using hd) i c (by simpa using h)
  | .loc _ _ :: r, hd, i, c, h => by simp [dataL] at hd
  | .row _ :: r, hd, i, c, h => by simp [dataL] at hd
  | .el _ :: r, hd, i, c, h => by simp [dataL] at hd
  | .rel _ _ _ :: r, hd, i, c, h => by simp [dataL] at hd
  | .clo _ _ _ :: r, hd, i, c, h => by simp [dataL] at hd
  | .tup _ :: r, hd, i, c, h => by simp [dataL] at hd
  | .raw _ :: r, hd, i, c, h => by simp [dataL] at hd
  | .any :: r, hd, i, c, h => by simp [dataL] at hd
  | .view _ _ _ _ :: r, hd, i, c, h => by simp [dataL] at hd
  | .dx _ _ :: r, hd, i, c, h => by simp [dataL] at hd
  | .ag _ :: r, hd, i, c, h => by simp [dataL] at hd
theorem sr_data {w w' : World} {S S' : Nat → Prop} {γ γ' : Nat → Value} {o o' : Nat → Option AO} {r : SV} {v : Value} (h : SR w S γ o r v) (hd : dataR r = true) (hS : ∀ k, S k → S' k) : SR w S' γ' o' r v ∧ ∀ m, r.lt m := by
  cases h with
  | d x _ hr => exact ⟨.d _ _ (hr.mono hS fun _ _ => rfl), fun _ => trivial⟩
  | tup xs vs hv hr =>
    have hd : dataL xs = true := hd
    refine ⟨.tup xs vs hv fun i c u hc hu => ?_, fun m => lts_of fun i c hc => ?_⟩
    · obtain ⟨x, rfl⟩ := dataL_d hd i c hc
      cases hr i _ u hc hu with
      | d _ _ hr => exact .d _ _ (hr.mono hS fun _ _ => rfl)
    · obtain ⟨x, rfl⟩ := dataL_d hd i c hc
      trivial
  | _ => simp [dataR] at hd
/-- What a run that was computed tells. -/
theorem Spec.closeR {P : Program} {f : FuncId} {asx : List SV} {x : SV} (ha : dataL asx = true) (hx : dataR x = true) (h : Spec P f asx (fun _ => none) 0 fun r _ _ => r = x) : PSpec P f asx x := by
  intro o nk w S γ vs h1 h2 h3 h4
  have hd : ∀ (i : Nat) (c : SV) (v : Value), asx[i]? = some c → vs[i]? = some v → SR w S γ (fun _ => none) c v := fun i c v hc hv => by
    have hr := h3 i c v hc hv
    obtain ⟨y, rfl⟩ := dataL_d ha i c hc
    cases hr with
    | d _ _ hr => exact .d _ _ hr
  have hl : SV.lts 0 asx := lts_of fun i c hc => by
    obtain ⟨d, rfl⟩ := dataL_d ha i c hc
    trivial
  have hs : Sto w S γ (fun _ => none) 0 := ⟨h1.s_lt, fun _ _ h => (by cases h), fun _ _ h => (by cases h), fun _ _ _ _ h => (by cases h), fun _ _ h => (by cases h), fun _ _ _ h => (by cases h), fun _ _ _ _ _ _ h => (by cases h)⟩
  refine (h w S γ vs hs h2 hd hl).mono ?_
  rintro v w' ⟨r, o', nk', S', γ', rfl, k1, k2, k3, k4⟩
  have hk : ∀ k, k < w.heap.size → w'.heap[k]? = w.heap[k]? := fun k hk => k2.kept k hk (by rintro ⟨t, x, ht, _⟩; cases ht)
  obtain ⟨m1, m2⟩ := h1.more (w' := w') (fun k => w.heap.size ≤ k ∧ k < w'.heap.size) (fun _ h => h) k2.os k2.tape k2.output k2.size hk
  have g := sr_data (w' := w) (γ' := γ) (o' := o) (S' := fun k => S k ∨ (w.heap.size ≤ k ∧ k < w'.heap.size)) k3 hx (fun k hk => by
    rcases k2.s_new k hk with h | h | ⟨t, x, ht, _⟩
    · exact .inl h
    · exact .inr ⟨h, k1.s_lt k hk⟩
    · cases ht)
  exact ⟨_, o, nk, _, γ, ⟨rfl, rfl, rfl⟩, m1, m2, g.1, g.2 _⟩
theorem dataL_map : ∀ xs : List D, dataL (xs.map .d) = true
  | [] => rfl
  | _ :: r => dataL_map r
theorem Spec.close {P : Program} {f : FuncId} {xs : List D} {x : D} (h : Spec P f (xs.map .d) (fun _ => none) 0 fun r _ _ => r = .d x) : PSpec P f (xs.map .d) (.d x) := Spec.closeR (dataL_map xs) rfl h
theorem xC_ok {P : Program} {X : Env} (hX : EnvOk P X) : ∀ m, (∀ n c s e s', xC X m n c s = some (e, s') → Ran P n c s e s') ∧ CallOk P (xCall X m) ∧ ∀ fz, CallOk P (xBody X m fz) := by
  intro m
  induction m using Nat.strongRecOn with
  | _ m ih =>
    cases m with
    | zero => exact ⟨fun n c s e s' h => by simp [xC] at h, fun f asx o nk r o' nk' h => by simp [xCall] at h, fun fz f asx o nk r o' nk' h => by simp [xBody] at h⟩
    | succ m =>
      obtain ⟨ihC, ihF, ihB⟩ := ih m (by omega)
      refine ⟨?_, ?_, ?_⟩
      · intro n c s e s' h
        cases c with
        | skip =>
          simp only [xC, Option.some.injEq, Prod.mk.injEq] at h
          obtain ⟨rfl, rfl⟩ := h
          exact fun E a w he hr => wp_skip ⟨rfl, hr⟩
        | ret =>
          simp only [xC, Option.some.injEq, Prod.mk.injEq] at h
          obtain ⟨rfl, rfl⟩ := h
          exact fun E a w he hr => wp_ret ⟨rfl, hr⟩
        | exit id =>
          simp only [xC, Option.some.injEq, Prod.mk.injEq] at h
          obtain ⟨rfl, rfl⟩ := h
          exact fun E a w he hr => wp_exit ⟨rfl, hr⟩
        | seq x y =>
          simp only [xC] at h
          cases hb : xC X m n x s with
          | none => rw [hb] at h; cases h
          | some p =>
            obtain ⟨e1, s1⟩ := p
            rw [hb] at h
            have h1 := ihC _ _ _ _ _ hb
            intro E a w he hr
            refine wp_seq (Go.wp_mono (h1 E a w he hr) ?_)
            rintro e2 a2 w2 ⟨rfl, h2⟩
            cases e2 with
            | normal => exact ihC _ _ _ _ _ h E a2 w2 he h2
            | _ =>
              simp only [Option.some.injEq, Prod.mk.injEq] at h
              obtain ⟨rfl, rfl⟩ := h
              exact ⟨rfl, h2⟩
        | block id c =>
          simp only [xC] at h
          cases hb : xC X m n c s with
          | none => rw [hb] at h; cases h
          | some p =>
            obtain ⟨e1, s1⟩ := p
            rw [hb] at h
            have h1 := ihC _ _ _ _ _ hb
            intro E a w he hr
            refine wp_block (Go.wp_mono (h1 E a w he hr) ?_)
            rintro e2 a2 w2 ⟨rfl, h2⟩
            cases e2 with
            | exit id' =>
              simp only at h
              show if id' = id then _ else _
              by_cases hid : id' = id
              · subst hid
                rw [if_pos rfl]
                simp only [Nat.beq_refl, cond_true, Option.some.injEq, Prod.mk.injEq] at h
                obtain ⟨rfl, rfl⟩ := h
                exact ⟨rfl, h2⟩
              · rw [if_neg hid]
                rw [TM.beq_cond, if_neg hid] at h
                simp only [Option.some.injEq, Prod.mk.injEq] at h
                obtain ⟨rfl, rfl⟩ := h
                exact ⟨rfl, h2⟩
            | _ =>
              simp only [Option.some.injEq, Prod.mk.injEq] at h
              obtain ⟨rfl, rfl⟩ := h
              exact ⟨rfl, h2⟩
        | cond x c d =>
          simp only [xC] at h
          intro E a w he hr
          split at h
          · rename_i hx
            exact wp_cond_true (cond_bool hr hx) (ihC _ _ _ _ _ h E a w he hr)
          · rename_i hx
            exact wp_cond_false (cond_bool hr hx) (ihC _ _ _ _ _ h E a w he hr)
          · cases h
        | loop c =>
          intro E a w he hr
          obtain ⟨k, hk⟩ := xC_loop (m + 1) (fun k hk => (ih k hk).1) n c s e s' h E he
          exact wp_loop_rounds k (hk a w hr)
        | scope c =>
          simp only [xC] at h
          cases hb : xC X m n c s with
          | none => rw [hb] at h; cases h
          | some p =>
            obtain ⟨e1, s1⟩ := p
            rw [hb] at h
            have h1 := ihC _ _ _ _ _ hb
            intro E a w he hr
            refine wp_scope_straight (Go.wp_mono (h1 E a w he hr) ?_)
            rintro e2 a2 w2 ⟨rfl, h2⟩
            cases e2 <;> first | (cases h; done) | (simp only [Option.some.injEq, Prod.mk.injEq] at h; obtain ⟨rfl, rfl⟩ := h; exact ⟨rfl, h2⟩)
        | region id ops drawn =>
          unfold xC at h
          simp only at h
          cases hd : (ops.toList.all fun o => dstOk n o.dst) with
          | false => rw [hd] at h; cases h
          | true =>
            rw [hd] at h
            simp only [cond_true] at h
            cases drawn with
            | false =>
              simp only at h
              split at h
              · rename_i s1 hs1
                simp only [Option.some.injEq, Prod.mk.injEq] at h
                obtain ⟨rfl, rfl⟩ := h
                intro E a w he hr
                refine wp_region_list ?_
                exact xOps_ok hX.hΘ ihF (fun a w hr => ⟨rfl, hr⟩) _ _ a w (by rw [he]; exact hd) hr hs1
              · cases h
            | true =>
              simp only at h
              split at h
              · rename_i s1 hs1
                simp only [Option.some.injEq, Prod.mk.injEq] at h
                obtain ⟨rfl, rfl⟩ := h
                exact xDrawF_ok hX.hΘ hX.mix ihF hd hs1
              · cases h
        | _ => simp [xC] at h
      · intro f asx o nk r o' nk' h
        simp only [xCall] at h
        split at h
        · rename_i r0 hd
          simp only [Option.some.injEq] at h
          subst h
          exact hX.memo f asx o nk r o' nk' hd
        split at h
        · rename_i d hd
          simp only [Option.some.injEq, Prod.mk.injEq] at h
          obtain ⟨rfl, rfl, rfl⟩ := h
          exact hX.nat f asx d hd o.get nk
        · cases hp : (X.pure f && dataL asx) with
          | false =>
            rw [hp] at h
            exact ihB false f asx o nk r o' nk' h
          | true =>
            rw [hp] at h
            simp only [cond_true] at h
            simp only [Bool.and_eq_true] at hp
            cases hb : xBody X m true f asx .e 0 with
            | none => rw [hb] at h; cases h
            | some q =>
              obtain ⟨r1, o1, k1⟩ := q
              rw [hb] at h
              simp only at h
              cases hd : dataR r1 with
              | false => rw [hd] at h; cases h
              | true =>
                rw [hd] at h
                simp only [cond_true, Option.some.injEq, Prod.mk.injEq] at h
                obtain ⟨rfl, rfl, rfl⟩ := h
                have hs := ihB true f asx .e 0 _ _ _ hb
                have he : (TM.e : TM AO).get = fun _ => none := by funext u; rfl
                rw [he] at hs
                exact Spec.closeR hp.2 hd (hs.mono fun r2 o2 n2 h => h.1) o.get nk
      · intro fz f asx o nk r o' nk' h
        simp only [xBody] at h
        split at h
        · cases h
        · rename_i fn hfn
          split at h
          · cases h
          · rename_i c hbody
            cases hle : Nat.ble asx.length fn.ntmps with
            | false => rw [hle] at h; cases h
            | true =>
              rw [hle] at h
              simp only [cond_true] at h
              split at h
              · cases h
              · rename_i e s1 hrun
                have hrun := ihC _ _ _ _ _ hrun
                split at h
                · cases h
                · rename_i he
                  have he : e = .normal ∨ e = .ret := by cases e <;> simp_all
                  obtain ⟨k1, k2⟩ := hX.tb f fn hfn
                  refine Spec.of_bodyC hX.hΘ (rs := fn.results.toList) (c := c) (n := fn.ntmps) ⟨fn, k1, hbody, k2, rfl, rfl⟩ (Nat.le_of_ble_eq_true hle) ?_
                  rw [← of_list_st]
                  intro E a w hn _ hr
                  refine Go.wp_mono (hrun E a w hn hr) ?_
                  rintro e2 a2 w2 ⟨rfl, h2⟩
                  split at h
                  · rename_i vs s2 hres
                    simp only [Option.some.injEq, Prod.mk.injEq] at h
                    obtain ⟨rfl, rfl, rfl⟩ := h
                    cases fz with
                    | true => exact ret_res (P := P) he hres (XS.tame_ok h2)
                    | false => exact ret_res (P := P) he hres h2
                  · split at h
                    · rename_i vs s2 hres
                      simp only [Option.some.injEq, Prod.mk.injEq] at h
                      obtain ⟨rfl, rfl, rfl⟩ := h
                      exact ret_res (P := P) he hres (XS.frzs_ok _ h2)
                    · cases h

def isD (x : D) : Option XR → Bool
  | some (.d y, _, _) => D.eqb x y
  | _ => false
/-- What the run yields, the function yields, whatever there is beside. -/
theorem PSpec.run {P : Program} {X : Env} (hX : EnvOk P X) (m : Nat) {f : FuncId} {xs : List D} {x : D} (h : isD x (xCall X m f (xs.map .d) .e 0) = true) : PSpec P f (xs.map .d) (.d x) := by
  refine Spec.close ?_
  cases hx : xCall X m f (xs.map .d) .e 0 with
  | none => rw [hx] at h; cases h
  | some p =>
    obtain ⟨r, o', nk'⟩ := p
    rw [hx] at h
    have hs := (xC_ok hX m).2.1 _ _ _ _ _ _ _ hx
    have he : (TM.e : TM AO).get = fun _ => none := by funext u; rfl
    rw [he] at hs
    refine hs.mono ?_
    rintro r2 o2 n2 ⟨rfl, _, _⟩
    cases r2 <;> simp only [isD] at h <;> try (cases h; done)
    rw [D.eqb_ok _ _ h]
/-- What a call's run tells. -/
def isR (r : SV) (o2 : TM AO) (k2 : Nat) : Option XR → Bool
  | some (r', o', k') => Nat.beq k2 k' && (SV.eqb r r' && tmB o2 o')
  | _ => false
theorem ME.run {P : Program} {X : Env} (hX : EnvOk P X) (m : Nat) (e : ME) (h : isR e.r e.o2 e.k2 (xCall X m e.f e.a e.o e.k) = true) : Spec P e.f e.a e.o.get e.k fun r2 o2 n2 => r2 = e.r ∧ o2 = e.o2.get ∧ n2 = e.k2 := by
  cases hx : xCall X m e.f e.a e.o e.k with
  | none => rw [hx] at h; cases h
  | some p =>
    obtain ⟨r, o', k'⟩ := p
    rw [hx] at h
    simp only [isR, Bool.and_eq_true] at h
    obtain ⟨h1, h2, h3⟩ := h
    rw [Nat.eq_of_beq_eq_true h1, SV.eqb_ok h2, tmB_ok h3]
    exact (xC_ok hX m).2.1 _ _ _ _ _ _ _ hx
def tbF : List (Nat × Func) → Nat → Option Func
  | [], _ => none
  | (k, fn) :: r, f => bif Nat.beq k f then some fn else tbF r f
theorem tbF_ok {P : Program} : ∀ (l : List (Nat × Func)), (∀ p ∈ l, P.funcs[p.1]? = some p.2 ∧ (p.2.name == "runtime.NumGoroutine") = false) → ∀ f fn, tbF l f = some fn → P.funcs[f]? = some fn ∧ (fn.name == "runtime.NumGoroutine") = false
  | [], _, f, fn, h => by simp [tbF] at h
  | (k, g) :: r, hl, f, fn, h => by
    simp only [tbF, TM.beq_cond] at h
    split at h
    · rename_i hk
      subst hk
      simp only [Option.some.injEq] at h
      subst h
      exact hl (k, g) (by simp)
    · exact tbF_ok r (fun p hp => hl p (by simp [hp])) f fn h
end Go.Proofs.YtpkcbdhjnnnkbaaGreat.Abs

/- A run in the kernel. -/
set_option linter.unusedVariables false
set_option maxRecDepth 100000
namespace Go.Proofs.YtpkcbdhjnnnkbaaGreat.Abs.Run27
open Go
noncomputable def tbl : List (Nat × Func) := [(27, Tryz.f27), (29, Tryz.f29), (34, Tryz.f34), (36, Tryz.f36), (38, Tryz.f38), (39, Tryz.f39), (41, Tryz.f41), (42, Tryz.f42), (56, Tryz.f56), (70, Tryz.f70), (71, Tryz.f71), (72, Tryz.f72), (73, Tryz.f73), (74, Tryz.f74), (75, Tryz.f75), (76, Tryz.f76), (77, Tryz.f77), (78, Tryz.f78), (84, Tryz.f84), (85, Tryz.f85), (86, Tryz.f86), (87, Tryz.f87), (92, Tryz.f92), (93, Tryz.f93), (106, Tryz.f106), (107, Tryz.f107), (108, Tryz.f108), (109, Tryz.f109), (110, Tryz.f110), (111, Tryz.f111), (112, Tryz.f112), (119, Tryz.f119), (120, Tryz.f120), (121, Tryz.f121), (122, Tryz.f122), (123, Tryz.f123), (124, Tryz.f124), (125, Tryz.f125), (126, Tryz.f126), (127, Tryz.f127), (128, Tryz.f128), (129, Tryz.f129), (130, Tryz.f130), (131, Tryz.f131), (132, Tryz.f132), (133, Tryz.f133), (137, Tryz.f137), (138, Tryz.f138), (139, Tryz.f139), (142, Tryz.f142), (143, Tryz.f143), (151, Tryz.f151), (152, Tryz.f152), (153, Tryz.f153), (154, Tryz.f154), (155, Tryz.f155), (156, Tryz.f156), (157, Tryz.f157), (158, Tryz.f158), (159, Tryz.f159), (160, Tryz.f160), (161, Tryz.f161), (162, Tryz.f162), (163, Tryz.f163), (164, Tryz.f164), (165, Tryz.f165), (166, Tryz.f166), (167, Tryz.f167), (168, Tryz.f168), (169, Tryz.f169), (179, Tryz.f179), (180, Tryz.f180), (181, Tryz.f181), (182, Tryz.f182), (183, Tryz.f183), (184, Tryz.f184), (185, Tryz.f185), (186, Tryz.f186), (187, Tryz.f187), (188, Tryz.f188), (189, Tryz.f189), (190, Tryz.f190), (191, Tryz.f191), (192, Tryz.f192), (193, Tryz.f193), (197, Tryz.f197), (199, Tryz.f199), (200, Tryz.f200), (201, Tryz.f201), (203, Tryz.f203), (204, Tryz.f204), (209, Tryz.f209)]
theorem tbl_ok : ∀ p ∈ tbl, Tryz.prog.funcs[p.1]? = some p.2 ∧ (p.2.name == "runtime.NumGoroutine") = false := by
  simp only [tbl, List.forall_mem_cons]
  exact ⟨⟨Tryz.func27, by kernel_rfl⟩, ⟨Tryz.func29, by kernel_rfl⟩, ⟨Tryz.func34, by kernel_rfl⟩, ⟨Tryz.func36, by kernel_rfl⟩, ⟨Tryz.func38, by kernel_rfl⟩, ⟨Tryz.func39, by kernel_rfl⟩, ⟨Tryz.func41, by kernel_rfl⟩, ⟨Tryz.func42, by kernel_rfl⟩, ⟨Tryz.func56, by kernel_rfl⟩, ⟨Tryz.func70, by kernel_rfl⟩, ⟨Tryz.func71, by kernel_rfl⟩, ⟨Tryz.func72, by kernel_rfl⟩, ⟨Tryz.func73, by kernel_rfl⟩, ⟨Tryz.func74, by kernel_rfl⟩, ⟨Tryz.func75, by kernel_rfl⟩, ⟨Tryz.func76, by kernel_rfl⟩, ⟨Tryz.func77, by kernel_rfl⟩, ⟨Tryz.func78, by kernel_rfl⟩, ⟨Tryz.func84, by kernel_rfl⟩, ⟨Tryz.func85, by kernel_rfl⟩, ⟨Tryz.func86, by kernel_rfl⟩, ⟨Tryz.func87, by kernel_rfl⟩, ⟨Tryz.func92, by kernel_rfl⟩, ⟨Tryz.func93, by kernel_rfl⟩, ⟨Tryz.func106, by kernel_rfl⟩, ⟨Tryz.func107, by kernel_rfl⟩, ⟨Tryz.func108, by kernel_rfl⟩, ⟨Tryz.func109, by kernel_rfl⟩, ⟨Tryz.func110, by kernel_rfl⟩, ⟨Tryz.func111, by kernel_rfl⟩, ⟨Tryz.func112, by kernel_rfl⟩, ⟨Tryz.func119, by kernel_rfl⟩, ⟨Tryz.func120, by kernel_rfl⟩, ⟨Tryz.func121, by kernel_rfl⟩, ⟨Tryz.func122, by kernel_rfl⟩, ⟨Tryz.func123, by kernel_rfl⟩, ⟨Tryz.func124, by kernel_rfl⟩, ⟨Tryz.func125, by kernel_rfl⟩, ⟨Tryz.func126, by kernel_rfl⟩, ⟨Tryz.func127, by kernel_rfl⟩, ⟨Tryz.func128, by kernel_rfl⟩, ⟨Tryz.func129, by kernel_rfl⟩, ⟨Tryz.func130, by kernel_rfl⟩, ⟨Tryz.func131, by kernel_rfl⟩, ⟨Tryz.func132, by kernel_rfl⟩, ⟨Tryz.func133, by kernel_rfl⟩, ⟨Tryz.func137, by kernel_rfl⟩, ⟨Tryz.func138, by kernel_rfl⟩, ⟨Tryz.func139, by kernel_rfl⟩, ⟨Tryz.func142, by kernel_rfl⟩, ⟨Tryz.func143, by kernel_rfl⟩, ⟨Tryz.func151, by kernel_rfl⟩, ⟨Tryz.func152, by kernel_rfl⟩, ⟨Tryz.func153, by kernel_rfl⟩, ⟨Tryz.func154, by kernel_rfl⟩, ⟨Tryz.func155, by kernel_rfl⟩, ⟨Tryz.func156, by kernel_rfl⟩, ⟨Tryz.func157, by kernel_rfl⟩, ⟨Tryz.func158, by kernel_rfl⟩, ⟨Tryz.func159, by kernel_rfl⟩, ⟨Tryz.func160, by kernel_rfl⟩, ⟨Tryz.func161, by kernel_rfl⟩, ⟨Tryz.func162, by kernel_rfl⟩, ⟨Tryz.func163, by kernel_rfl⟩, ⟨Tryz.func164, by kernel_rfl⟩, ⟨Tryz.func165, by kernel_rfl⟩, ⟨Tryz.func166, by kernel_rfl⟩, ⟨Tryz.func167, by kernel_rfl⟩, ⟨Tryz.func168, by kernel_rfl⟩, ⟨Tryz.func169, by kernel_rfl⟩, ⟨Tryz.func179, by kernel_rfl⟩, ⟨Tryz.func180, by kernel_rfl⟩, ⟨Tryz.func181, by kernel_rfl⟩, ⟨Tryz.func182, by kernel_rfl⟩, ⟨Tryz.func183, by kernel_rfl⟩, ⟨Tryz.func184, by kernel_rfl⟩, ⟨Tryz.func185, by kernel_rfl⟩, ⟨Tryz.func186, by kernel_rfl⟩, ⟨Tryz.func187, by kernel_rfl⟩, ⟨Tryz.func188, by kernel_rfl⟩, ⟨Tryz.func189, by kernel_rfl⟩, ⟨Tryz.func190, by kernel_rfl⟩, ⟨Tryz.func191, by kernel_rfl⟩, ⟨Tryz.func192, by kernel_rfl⟩, ⟨Tryz.func193, by kernel_rfl⟩, ⟨Tryz.func197, by kernel_rfl⟩, ⟨Tryz.func199, by kernel_rfl⟩, ⟨Tryz.func200, by kernel_rfl⟩, ⟨Tryz.func201, by kernel_rfl⟩, ⟨Tryz.func203, by kernel_rfl⟩, ⟨Tryz.func204, by kernel_rfl⟩, ⟨Tryz.func209, by kernel_rfl⟩, by simp⟩
noncomputable def nofr : List Nat := [34, 38, 85, 87, 92, 93, 106, 107, 108, 109, 138, 139, 143, 151, 179, 180, 191, 193]
noncomputable def pures : List Nat := [29, 56, 70, 71, 72, 73, 74, 76, 77, 78, 110, 111, 120, 122, 123, 124, 125, 126, 128, 130, 131, 132, 133, 152, 153, 155, 156, 157, 158, 160, 161, 162, 164, 166, 167, 168, 181, 182, 183, 184, 186, 187, 188, 189, 197, 199, 203, 204, 209]
def natF (f : Nat) (asx : List SV) : Option D :=
  match asx with
  | [.d (.str s), .d (.int .u8 c)] => bif Nat.beq f 208 then some (.int .i64 (Go.Lib.indexByte s c.toNat.toUInt8)) else none
  | [.d (.str s), .d (.str t)] => bif Nat.beq f 212 then some (.int .i64 (Go.Lib.compareBytes s t)) else none
  | _ => none
theorem natF_ok (f : Nat) (asx : List SV) (d : D) (h : natF f asx = some d) : PSpec Tryz.prog f asx (.d d) := by
  unfold natF at h
  split at h
  · rw [TM.beq_cond] at h
    split at h
    · rename_i hf; subst hf
      simp only [Option.some.injEq] at h; subst h
      exact s208 _ _
    · cases h
  · rw [TM.beq_cond] at h
    split at h
    · rename_i hf; subst hf
      simp only [Option.some.injEq] at h; subst h
      exact s212 _ _
    · cases h
  · cases h
noncomputable def env : Env := ⟨Θ, tbF tbl, natF, fun f => (nofr ++ [0,1,2,3,4,5,6,7,8,9,10,11,12,13,14,15,16,17,18,19,20,21,22,23,24,25,26,27,28,29,30,31,32,33,34,35,36,37,38,39,40,41,42,43,44,45,46,47,48,49,50,51,52,53,54,55,56,57,58,59,60,61,62,63,64,65,66,67,68,69,70,71,72,73,74,75,76,77,78,79,80,81,82,83,84,85,86,87,88,89,90,91,92,93,94,95,96,97,98,99,100,101,102,103,104,105,106,107,108,109,110,111,112,113,114,115,116,117,118,119,120,121,122,123,124,125,126,127,128,129,130,131,132,133,134,135,136,137,138,139,140,141,142,143,144,145,146,147,148,149,150,151,152,153,154,155,156,157,158,159,160,161,162,163,164,165,166,167,168,169,170,171,172,173,174,175,176,177,178,179,180,181,182,183,184,185,186,187,188,189,190,191,192,193,194,195,196,197,198,199,200,201,202,203,204,205,206,207,208,209,210,211,212,213,214,215,216,217,218,219,220,221,222,223,224,225,226,227,228,229,230,231,232,233,234,235,236,237,238,239,240,241,242,243,244,245,246,247,248,249,250,251,252,253,254,255,256,257,258,259,260,261,262,263,264,265,266,267,268,269,270,271,272,273,274,275,276,277,278,279,280,281,282,283,284,285,286,287,288,289,290,291,292,293,294,295,296,297,298,299,300,301,302,303,304,305,306,307,308,309,310,311,312,313,314,315,316,317,318,319,320,321,322,323,324,325,326,327,328,329,330]).contains f, fun f => pures.contains f, fun _ _ _ _ => none⟩
theorem envOk : EnvOk Tryz.prog env := ⟨tabOk, fun f fn h => tbF_ok tbl tbl_ok f fn h, natF_ok, mix, fun _ _ _ _ _ _ _ h => by cases h⟩
theorem ran : isD (.bool true) (xCall env 1000000 27 [] .e 0) = true := by kernel_rfl
theorem s : PSpec Tryz.prog 27 [] (.d (.bool true)) := PSpec.run envOk 1000000 (xs := []) ran
end Go.Proofs.YtpkcbdhjnnnkbaaGreat.Abs.Run27
namespace Go.Proofs.YtpkcbdhjnnnkbaaGreat.Abs
theorem s27 : PSpec Tryz.prog 27 [] (.d (.bool true)) := Run27.s
end Go.Proofs.YtpkcbdhjnnnkbaaGreat.Abs

/- A run in the kernel. -/
set_option linter.unusedVariables false
set_option maxRecDepth 100000
namespace Go.Proofs.YtpkcbdhjnnnkbaaGreat.Abs.Run38
open Go
noncomputable def tbl : List (Nat × Func) := [(38, Tryz.f38), (41, Tryz.f41), (42, Tryz.f42), (56, Tryz.f56), (73, Tryz.f73), (76, Tryz.f76), (92, Tryz.f92), (93, Tryz.f93), (106, Tryz.f106), (107, Tryz.f107), (108, Tryz.f108), (109, Tryz.f109), (110, Tryz.f110), (111, Tryz.f111), (112, Tryz.f112), (123, Tryz.f123), (124, Tryz.f124), (128, Tryz.f128), (129, Tryz.f129), (130, Tryz.f130), (137, Tryz.f137), (138, Tryz.f138), (142, Tryz.f142), (143, Tryz.f143), (151, Tryz.f151), (152, Tryz.f152), (153, Tryz.f153), (154, Tryz.f154), (160, Tryz.f160), (161, Tryz.f161), (163, Tryz.f163), (169, Tryz.f169), (179, Tryz.f179), (180, Tryz.f180), (181, Tryz.f181), (182, Tryz.f182), (186, Tryz.f186), (187, Tryz.f187), (197, Tryz.f197), (199, Tryz.f199), (203, Tryz.f203), (204, Tryz.f204), (209, Tryz.f209)]
theorem tbl_ok : ∀ p ∈ tbl, Tryz.prog.funcs[p.1]? = some p.2 ∧ (p.2.name == "runtime.NumGoroutine") = false := by
  simp only [tbl, List.forall_mem_cons]
  exact ⟨⟨Tryz.func38, by kernel_rfl⟩, ⟨Tryz.func41, by kernel_rfl⟩, ⟨Tryz.func42, by kernel_rfl⟩, ⟨Tryz.func56, by kernel_rfl⟩, ⟨Tryz.func73, by kernel_rfl⟩, ⟨Tryz.func76, by kernel_rfl⟩, ⟨Tryz.func92, by kernel_rfl⟩, ⟨Tryz.func93, by kernel_rfl⟩, ⟨Tryz.func106, by kernel_rfl⟩, ⟨Tryz.func107, by kernel_rfl⟩, ⟨Tryz.func108, by kernel_rfl⟩, ⟨Tryz.func109, by kernel_rfl⟩, ⟨Tryz.func110, by kernel_rfl⟩, ⟨Tryz.func111, by kernel_rfl⟩, ⟨Tryz.func112, by kernel_rfl⟩, ⟨Tryz.func123, by kernel_rfl⟩, ⟨Tryz.func124, by kernel_rfl⟩, ⟨Tryz.func128, by kernel_rfl⟩, ⟨Tryz.func129, by kernel_rfl⟩, ⟨Tryz.func130, by kernel_rfl⟩, ⟨Tryz.func137, by kernel_rfl⟩, ⟨Tryz.func138, by kernel_rfl⟩, ⟨Tryz.func142, by kernel_rfl⟩, ⟨Tryz.func143, by kernel_rfl⟩, ⟨Tryz.func151, by kernel_rfl⟩, ⟨Tryz.func152, by kernel_rfl⟩, ⟨Tryz.func153, by kernel_rfl⟩, ⟨Tryz.func154, by kernel_rfl⟩, ⟨Tryz.func160, by kernel_rfl⟩, ⟨Tryz.func161, by kernel_rfl⟩, ⟨Tryz.func163, by kernel_rfl⟩, ⟨Tryz.func169, by kernel_rfl⟩, ⟨Tryz.func179, by kernel_rfl⟩, ⟨Tryz.func180, by kernel_rfl⟩, ⟨Tryz.func181, by kernel_rfl⟩, ⟨Tryz.func182, by kernel_rfl⟩, ⟨Tryz.func186, by kernel_rfl⟩, ⟨Tryz.func187, by kernel_rfl⟩, ⟨Tryz.func197, by kernel_rfl⟩, ⟨Tryz.func199, by kernel_rfl⟩, ⟨Tryz.func203, by kernel_rfl⟩, ⟨Tryz.func204, by kernel_rfl⟩, ⟨Tryz.func209, by kernel_rfl⟩, by simp⟩
noncomputable def nofr : List Nat := [38, 92, 93, 106, 107, 108, 109, 138, 143, 151, 179, 180]
noncomputable def pures : List Nat := [56, 73, 76, 110, 111, 123, 124, 128, 130, 152, 153, 160, 161, 181, 182, 186, 187, 197, 199, 203, 204, 209]
def natF (f : Nat) (asx : List SV) : Option D :=
  match asx with
  | [.d (.str s), .d (.int .u8 c)] => bif Nat.beq f 208 then some (.int .i64 (Go.Lib.indexByte s c.toNat.toUInt8)) else none
  | [.d (.str s), .d (.str t)] => bif Nat.beq f 212 then some (.int .i64 (Go.Lib.compareBytes s t)) else none
  | _ => none
theorem natF_ok (f : Nat) (asx : List SV) (d : D) (h : natF f asx = some d) : PSpec Tryz.prog f asx (.d d) := by
  unfold natF at h
  split at h
  · rw [TM.beq_cond] at h
    split at h
    · rename_i hf; subst hf
      simp only [Option.some.injEq] at h; subst h
      exact s208 _ _
    · cases h
  · rw [TM.beq_cond] at h
    split at h
    · rename_i hf; subst hf
      simp only [Option.some.injEq] at h; subst h
      exact s212 _ _
    · cases h
  · cases h
noncomputable def env : Env := ⟨Θ, tbF tbl, natF, fun f => (nofr ++ [0,1,2,3,4,5,6,7,8,9,10,11,12,13,14,15,16,17,18,19,20,21,22,23,24,25,26,27,28,29,30,31,32,33,34,35,36,37,38,39,40,41,42,43,44,45,46,47,48,49,50,51,52,53,54,55,56,57,58,59,60,61,62,63,64,65,66,67,68,69,70,71,72,73,74,75,76,77,78,79,80,81,82,83,84,85,86,87,88,89,90,91,92,93,94,95,96,97,98,99,100,101,102,103,104,105,106,107,108,109,110,111,112,113,114,115,116,117,118,119,120,121,122,123,124,125,126,127,128,129,130,131,132,133,134,135,136,137,138,139,140,141,142,143,144,145,146,147,148,149,150,151,152,153,154,155,156,157,158,159,160,161,162,163,164,165,166,167,168,169,170,171,172,173,174,175,176,177,178,179,180,181,182,183,184,185,186,187,188,189,190,191,192,193,194,195,196,197,198,199,200,201,202,203,204,205,206,207,208,209,210,211,212,213,214,215,216,217,218,219,220,221,222,223,224,225,226,227,228,229,230,231,232,233,234,235,236,237,238,239,240,241,242,243,244,245,246,247,248,249,250,251,252,253,254,255,256,257,258,259,260,261,262,263,264,265,266,267,268,269,270,271,272,273,274,275,276,277,278,279,280,281,282,283,284,285,286,287,288,289,290,291,292,293,294,295,296,297,298,299,300,301,302,303,304,305,306,307,308,309,310,311,312,313,314,315,316,317,318,319,320,321,322,323,324,325,326,327,328,329,330]).contains f, fun f => pures.contains f, fun _ _ _ _ => none⟩
theorem envOk : EnvOk Tryz.prog env := ⟨tabOk, fun f fn h => tbF_ok tbl tbl_ok f fn h, natF_ok, mix, fun _ _ _ _ _ _ _ h => by cases h⟩
theorem ran : isD (.nil) (xCall env 1000000 38 ([D.nilp].map .d) .e 0) = true := by kernel_rfl
theorem s : PSpec Tryz.prog 38 ([D.nilp].map .d) (.d (.nil)) := PSpec.run envOk 1000000 (xs := [D.nilp]) ran
end Go.Proofs.YtpkcbdhjnnnkbaaGreat.Abs.Run38
namespace Go.Proofs.YtpkcbdhjnnnkbaaGreat.Abs
theorem s38nil : PSpec Tryz.prog 38 ([D.nilp].map .d) (.d (.nil)) := Run38.s
end Go.Proofs.YtpkcbdhjnnnkbaaGreat.Abs

set_option linter.unusedVariables false
set_option linter.unusedSimpArgs false
set_option maxRecDepth 10000
set_option maxHeartbeats 1000000
namespace Go.Proofs.YtpkcbdhjnnnkbaaGreat.Abs
open Go
theorem left_q {a b : SB} (h : SBq a b) : leftS a = leftS b := by
  rcases h.cases with rfl | ⟨ha, hb⟩
  · rfl
  · simp [leftS, ha, hb]
theorem PSpec.wk {P : Program} {f : FuncId} {us : List SV} {x x' : D} (h : PSpec P f us (.d x')) (hx : D.le x' x) : PSpec P f us (.d x) := fun o nk => Spec.weak (Q := fun o' nk' => o' = o ∧ nk' = nk) ((h o nk).mono fun r o' nk' h => ⟨⟨x', h.1, hx⟩, h.2⟩)
theorem sameDs_refl (a : List Dlt) : sameDs a a = true := by simp [sameDs]

theorem fn36 : FnOk Tryz.prog 36 6 [2] (bodyOf Tryz.f36) := ⟨Tryz.f36, Tryz.func36, by kernel_rfl, by decide, by kernel_rfl, by kernel_rfl⟩
theorem s36 (b : List UInt8) (o : Nat → Option AO) (nk : Nat) : Spec Tryz.prog 36 [.d (.sl 1 (b.map encB))] o nk (fun r' o' nk' => r' = .loc nk 0 ∧ o' = upd o nk (some (.box (srcS (b, false)))) ∧ nk' = nk + 1) := by
 refine Spec.of_body fn36 (by simp) ?_
 refine wr ?_
 refine ua ?_
 refine u_nil ?_
 refine wr ?_
 refine um ?_
 refine u_step (o_bu rfl th102 rfl rfl ?_)
 refine u_step (g_box rfl fun o3 hb3 hk3 => ?_)
 refine u_step (o_assignV (v := .loc _ _) rfl ?_)
 refine u_nil ?_
 refine WP.ret ?_
 refine ⟨rfl, funext fun t => ?_, rfl⟩
 by_cases ht : t = nk
 · subst ht; rw [upd_same]; exact hb3
 · rw [upd_ne _ _ ht]; exact (show ∀ t : Nat, t ≠ nk → o3 t = o t from (fun t ht => (hk3 t (by omega)))) t ht

theorem fn8 : FnOk Tryz.prog 8 63 [4] (bodyOf Tryz.f8) := ⟨Tryz.f8, Tryz.func8, by kernel_rfl, by decide, by kernel_rfl, by kernel_rfl⟩
theorem s8 (b : List UInt8) (x : Int) : PSpec Tryz.prog 8 [.d (.sl 1 (b.map encB)), .d (.int .i64 x)] (.d (.bool true)) := by
 refine PSpec.of fn8 (by simp) fun o nk => ?_
 refine wr ?_
 refine ua ?_
 refine u_nil ?_
 refine WP.seq fun K2 hK2 => ?_
 refine wr ?_
 refine um ?_
 refine un th52 ?_
 refine ub ?_
 refine u_nil ?_
 refine wc (fun hc4 => ?_) (fun hc4 => ?_) <;> try simp only [Q0, Q1, Q2, Q3, Q4, Q5, Q6, Q7, Q8, ge_iff_le, gt_iff_lt] at hc4
 ·
  refine wr ?_
  refine u_step (o_pcall (s27) rfl ?_)
  refine ua ?_
  refine u_nil ?_
  refine WP.ret ?_
  refine ret_ok rfl ?_ (by omega) (fun _ _ => rfl)
  -- ret 1
  rfl
 ·
  have hlen : b.length ≤ 20000 := by have hgo := hc4; simp at hgo; omega
  refine WP.skip ?_
  refine hK2 _ ?_
  refine wr ?_
  refine u_step (g_bs0 th52 rfl th5 rfl rfl (by decide) fun o7 hb7 hk7 => ?_)
  refine um ?_
  refine u_step (g_ap rfl rfl th52 rfl th5 rfl rfl (by decide) rfl hb7 (by simp; omega) (by simp; omega) fun o8 hb8 hk8 => ?_)
  refine u_step (o_lcallF (us := [.row _]) hb8 (fun o => s36 b o _) rfl (by simp [SV.frz]) fun o9 hb9 hk9 => ?_)
  refine u_step (o_assignV (v := .loc _ _) rfl ?_)
  refine u_nil ?_
  refine wr ?_
  refine um ?_
  refine u_step (o_bu rfl th63 rfl rfl ?_)
  refine u_step (g_box rfl fun o11 hb11 hk11 => ?_)
  have hb9_11 := (hk11 _ (by omega)).trans hb9
  refine u_step (o_assignV (v := .loc _ _) rfl ?_)
  refine u_nil ?_
  refine WP.seq fun K12 hK12 => ?_
  refine wr ?_
  refine u_step (o_pcall (s27) rfl ?_)
  refine uN ?_
  refine um ?_
  apply gF
  · rfl
  · intro hg
    refine o_moveV (v := .loc _ _) rfl ⟨rfl, rfl, rfl⟩
  apply gF
  · rfl
  · intro hg; try simp only [hg, ct]; try simp only [hg, ct, Bt]
    refine o_pnil rfl rfl th55 rfl hb9_11 ⟨rfl, rfl, rfl⟩
  refine uO ?_
  refine u_nil ?_
  refine wc (fun hc14 => ?_) (fun hc14 => ?_) <;> try simp only [Q0, Q1, Q2, Q3, Q4, Q5, Q6, Q7, Q8, ge_iff_le, gt_iff_lt] at hc14
  ·
   simp at hc14
  ·
   refine WP.skip ?_
   refine hK12 _ ?_
   refine WP.seq fun K15 hK15 => ?_
   refine wr ?_
   refine ua ?_
   refine u_nil ?_
   refine WP.block ?_
   refine WP.loopL (ι := Nat × SB × SB × (Nat → Option AO)) (fun ⟨i, sa, sb, o2⟩ => ⟨al [(1, .d (.int .i64 x)), (5, .loc ((nk + 1) + 1) 0), (6, .loc (((nk + 1) + 1) + 1) 0), (7, .d (.int .i64 i))], o2, ((((nk + 1) + 1) + 1) + 1)⟩) (fun ⟨i, sa, sb, o2⟩ => i ≤ 10 ∧ SBq sa sb ∧ sa.1.length ≤ 20000 ∧ sb.1.length ≤ 20000 ∧ o2 ((nk + 1) + 1) = some (.box (srcS sa)) ∧ o2 (((nk + 1) + 1) + 1) = some (.box (srcS sb)) ∧ ∀ t, t < nk → o2 t = o t) (fun ⟨i, sa, sb, o2⟩ => 10 - i) (fun ⟨i, sa, sb, o2⟩ hA => ?_) ⟨0, (b, false), (b, false), o11⟩ ?_ ?_
   ·
    obtain ⟨hle, hsq, hsa, hsb, hP, hR, hfr⟩ := hA
    refine WP.seq fun K17 hK17 => ?_
    refine wr ?_
    refine um ?_
    refine um ?_
    refine ub ?_
    refine um ?_
    apply gT
    · rfl
    · intro hg
      exact pm
    apply gT
    · rfl
    · intro hg; try simp only [hg, ct]; try simp only [hg, ct, Bt]
      exact pb
    refine uA ?_
    refine u_nil ?_
    refine wc (fun hc19 => ?_) (fun hc19 => ?_) <;> try simp only [Q0, Q1, Q2, Q3, Q4, Q5, Q6, Q7, Q8, ge_iff_le, gt_iff_lt] at hc19
    ·
     have hgo := hc19
     simp at hgo
     have hqq := rdDs_q hsq
     have hla := rdDsP_le sa
     have hlb := rdDsR_le sb
     refine WP.skip ?_
     refine hK17 _ ?_
     refine WP.seq fun K20 hK20 => ?_
     refine WP.block ?_
     refine wr ?_
     refine u_step (o_moveV (v := .loc _ _) rfl ?_)
     refine u_step (g_mcall (s38 sa (by omega)) hP rfl fun o22 hb22 hk22 => ?_)
     have hR_22 := (hk22 _ (by omega)).trans hR
     refine u_step (o_moveV (v := .loc _ _) rfl ?_)
     refine u_step (g_mcall (s40 sb (by omega)) hR_22 rfl fun o23 hb23 hk23 => ?_)
     have hb22_23 := (hk23 _ (by omega)).trans hb22
     refine ua ?_
     refine ua ?_
     refine u_nil ?_
     refine wd ?_
     refine dm ?_
     refine dm ?_
     refine d_step (o_pcall (s37 _ _) rfl ⟨rfl, rfl, rfl⟩) ?_
     refine dN ?_
     refine dm ?_
     apply d_guard
     · exact GC.f _
     · intro hg
       refine o_moveV (v := .loc _ _) rfl ⟨rfl, rfl, rfl⟩
     apply d_guard
     · exact GC.f _
     · intro hg; try simp only [hg, ct]; try simp only [hg, ct, Bt]
       refine o_scall (s41 _ hb22_23) rfl ⟨rfl, rfl, rfl⟩
     apply d_guard
     · exact GC.f _
     · intro hg
       refine o_moveV (v := .loc _ _) rfl ⟨rfl, rfl, rfl⟩
     apply d_guard
     · exact GC.f _
     · intro hg; try simp only [hg, ct]; try simp only [hg, ct, Bt]
       refine o_nc rfl hb23 ⟨rfl, rfl, rfl⟩
     apply d_guard
     · exact GC.f _
     · intro hg; try simp only [hg, ct]; try simp only [hg, ct, Bt]
       exact pf th63 th4 hb23
     apply d_guard
     · exact GC.f _
     · intro hg; try simp only [hg, ct]; try simp only [hg, ct, Bt]
       exact pl th4 hb23
     apply d_guard
     · exact GC.f _
     · intro hg; try simp only [hg, ct]; try simp only [hg, ct, Bt]
       refine o_bin_neb rfl rfl th4 rfl ⟨rfl, rfl, rfl⟩
     refine dO ?_
     refine dm ?_
     apply d_guard
     · exact GC.f _
     · intro hg
       refine o_moveV (v := .loc _ _) rfl ⟨rfl, rfl, rfl⟩
     apply d_guard
     · exact GC.f _
     · intro hg; try simp only [hg, ct]; try simp only [hg, ct, Bt]
       refine o_scall (s42 _ hb22_23) rfl ⟨rfl, rfl, rfl⟩
     apply d_guard
     · exact GC.f _
     · intro hg
       refine o_moveV (v := .loc _ _) rfl ⟨rfl, rfl, rfl⟩
     apply d_guard
     · exact GC.f _
     · intro hg; try simp only [hg, ct]; try simp only [hg, ct, Bt]
       refine o_scall (s43 _ hb23) rfl ⟨rfl, rfl, rfl⟩
     apply d_guard
     · exact GC.f _
     · intro hg; try simp only [hg, ct]; try simp only [hg, ct, Bt]
       exact pb
     refine dO ?_
     refine d_nil ?_
     refine wc (fun hc25 => ?_) (fun hc25 => ?_) <;> try simp only [Q0, Q1, Q2, Q3, Q4, Q5, Q6, Q7, Q8, ge_iff_le, gt_iff_lt] at hc25
     ·
      exfalso
      have e1 := hqq.1
      have e2 := hqq.2.1
      have e3 := left_q hqq.2
      have hg9 := hc25
      simp [e1, e2, e3, sameDs_refl] at hg9
     ·
      refine WP.skip ?_
      refine hK20 _ ?_
      refine WP.reg tabOk rfl ?_
      refine um ?_
      refine ub ?_
      refine ua ?_
      refine u_nil ?_
      -- back
      refine ⟨⟨i + 1, (rdDsP sa).2, (rdDsR sb).2, o23⟩, ⟨by omega, hqq.2, by omega, by omega, hb22_23, hb23, (fun t ht => (hk23 t (by omega)).trans ((hk22 t (by omega)).trans ((hfr t (by omega)))))⟩, by simp only; omega, Le.al ?_⟩
      simp only [List.forall_mem_cons]
      exact ⟨rfl, rfl, rfl, cnt (by omega), by simp⟩
    ·
     refine WP.exit ?_
     refine hK15 _ ?_
     refine wr ?_
     refine u_step (o_pcall ((PSpec.wk s38nil (x := .sl 8 []) rfl)) rfl ?_)
     refine un th28 ?_
     refine ub ?_
     refine ua ?_
     refine u_nil ?_
     refine WP.ret ?_
     refine ret_ok rfl ?_ (by omega) (fun t ht => (hfr t (by omega)))
     -- ret 2
     rfl
   ·
    refine ⟨by omega, SBq.refl _, hlen, hlen, hb9_11, hb11, (fun t ht => (hk11 t (by omega)).trans ((hk9 t (by omega) (by omega)).trans ((hk8 t (by omega) (by omega)).trans ((hk7 t (by omega))))))⟩
   ·
    refine Le.al ?_
    simp only [List.forall_mem_cons]
    exact ⟨rfl, rfl, rfl, rfl, by simp⟩

end Go.Proofs.YtpkcbdhjnnnkbaaGreat.Abs

/- The row's opening: what is read as data is held by values; its closing: what was read is there still. -/
set_option linter.unusedVariables false
set_option linter.unusedSimpArgs false
namespace Go.Proofs.YtpkcbdhjnnnkbaaGreat.Abs
open Go
open Go.ChangeShapes Go.WideShapes Go.ChangeAt Go.RowKit Go.WideElems

def Sof (w : World) : Nat → Prop := fun k => k < w.heap.size
/-- Values, cell by cell. -/
def RdC (w : World) (xs : List D) (cs : List Value) : Prop := cs.length = xs.length ∧ ∀ (i : Nat) (x : D) (v : Value), xs[i]? = some x → cs[i]? = some v → Rd w (Sof w) x v
def D.cl : D → List D
  | .agg xs => xs
  | x => [x]
def D.ok1 : D → Prop
  | .agg xs => xs.all D.leaf = true
  | _ => True
theorem val_of {w : World} {x : D} {cs : List Value} (h : RdC w x.cl cs) (ho : x.ok1) : ∃ v : Value, v.cells.toList = cs ∧ Rd w (Sof w) x v := by
  obtain ⟨h1, h2⟩ := h
  by_cases hx : x.leaf = true
  · have hc : x.cl = [x] := by cases x <;> first | rfl | (simp [D.leaf] at hx)
    rw [hc] at h1 h2
    match cs, h1 with
    | [v], _ =>
      have hr := h2 0 x v rfl rfl
      exact ⟨v, by rw [hr.leaf_cells hx], hr⟩
  · cases x <;> simp [D.leaf] at hx
    rename_i xs
    exact ⟨.agg cs.toArray, by simp [Value.cells], .agg xs cs ho h1 h2⟩
theorem rdC_one {w : World} {x : D} {v : Value} (h : Rd w (Sof w) x v) : RdC w [x] [v] := by
  refine ⟨rfl, fun i y u h1 h2 => ?_⟩
  match i with
  | 0 => simp at h1 h2; subst h1; subst h2; exact h
  | i + 1 => simp at h1
theorem list_of {α : Type} {Q : Nat → α → Prop} : ∀ n, (∀ i, i < n → ∃ a, Q i a) → ∃ l : List α, l.length = n ∧ ∀ i a, l[i]? = some a → Q i a
  | 0, _ => ⟨[], rfl, by simp⟩
  | n + 1, h => by
    obtain ⟨l, h1, h2⟩ := list_of n fun i hi => h i (by omega)
    obtain ⟨a, ha⟩ := h n (by omega)
    refine ⟨l ++ [a], by simp [h1], fun i b hb => ?_⟩
    rcases Nat.lt_or_ge i l.length with hi | hi
    · rw [List.getElem?_append_left hi] at hb; exact h2 i b hb
    · rw [List.getElem?_append_right hi] at hb
      have : i - l.length = 0 := by
        rcases Nat.eq_zero_or_pos (i - l.length) with h' | h'
        · exact h'
        · rw [List.getElem?_eq_none (by simp; omega)] at hb; cases hb
      rw [this] at hb
      simp at hb
      subst hb
      rw [show i = n by omega]; exact ha
theorem mapM_some {α β : Type} {f : α → Option β} : ∀ {l : List α} {r : List β}, l.mapM f = some r → r.length = l.length ∧ ∀ (i : Nat) (a : α), l[i]? = some a → f a = r[i]?
  | [], r, h => by
    simp at h; subst h; exact ⟨rfl, by simp⟩
  | a :: l, r, h => by
    rw [List.mapM_cons] at h
    simp only [Option.bind_eq_bind, Option.bind_eq_some_iff, Option.pure_def, Option.some.injEq] at h
    obtain ⟨b, hb, r', hr, rfl⟩ := h
    obtain ⟨h1, h2⟩ := mapM_some hr
    refine ⟨by simp [h1], fun i x hx => ?_⟩
    match i with
    | 0 => simp at hx; subst hx; simpa using hb
    | i + 1 => simpa using h2 i x (by simpa using hx)
theorem cells_some {w : World} {b n : Nat} {a : Addr} {cs : List Value} (h : w.cells? b a n = some cs) : cs.length = n ∧ ∀ j, j < n → w.cell? (a.add j) = cs[j]? := by
  unfold World.cells? at h
  split at h
  · obtain ⟨h1, h2⟩ := mapM_some h
    rw [List.length_range] at h1
    exact ⟨h1, fun j hj => h2 j j (by rw [List.getElem?_range hj])⟩
  · cases h

section
variable {H : Type} {enc : TypeId × Value → H} {P : Program} {w : World} {base fuel : Nat} {spare : Nat → Bool} {held : Bool} {t e : TypeId} {cs : List Value} {x : DataW H × List MemPlace}

/-- Elements and their data. -/
def All2 {α : Type} (A : α → DataW H → Prop) (l : List α) (es : List (DataW H)) : Prop := l.length = es.length ∧ ∀ (i : Nat) (a : α) (y : DataW H), l[i]? = some a → es[i]? = some y → A a y
def SlD {α : Type} (A : α → DataW H → Prop) (l : List α) (d : DataW H) : Prop := (d = .nil ∧ l = []) ∨ ∃ es sp, d = .slice es sp ∧ All2 A l es

theorem rd_slice {α : Type} {z : Nat} (encA : α → D) (A : α → DataW H → Prop) (hu : P.underlying t = some (.slice e)) (hz : P.cellsOf e = z) (hz0 : 0 < z) (hzA : ∀ a, (encA a).cl.length = z) (hok : ∀ a, (encA a).ok1)
    (h : DataW.trod enc P w base spare held fuel t cs = some x)
    (he : ∀ n cs x, n < fuel → DataW.trod enc P w base spare held n e cs = some x → ∃ a, RdC w (encA a).cl cs ∧ A a x.1) :
    ∃ l : List α, RdC w [.sl z (l.map encA)] cs ∧ SlD A l x.1 := by
  rcases DataW.trod_slice hu h with ⟨rfl, rfl⟩ | ⟨a, len, cap, elems, rest, n, hf, rfl, rfl, hb, hlc, hcm, hlen, hel, _⟩
  · exact ⟨[], rdC_one (.emp _ _ _ (by omega)), .inl ⟨rfl, rfl⟩⟩
  · rw [hz] at hel
    have key : ∀ i, i < len → ∃ p : α × Value, (∃ cs', w.cells? base (a.add (i * z)) z = some cs' ∧ p.2.cells.toList = cs') ∧ Rd w (Sof w) (encA p.1) p.2 ∧ ∀ y, elems[i]? = some y → A p.1 y.1 := by
      intro i hi
      have h1 := hel i hi
      rw [List.getElem?_eq_getElem (by omega)] at h1
      obtain ⟨cs', h2, h3⟩ := Option.bind_eq_some_iff.1 h1
      obtain ⟨b, h4, h5⟩ := he n cs' _ (by omega) h3
      obtain ⟨v, h6, h7⟩ := val_of h4 (hok b)
      refine ⟨(b, v), ⟨cs', h2, h6⟩, h7, fun y hy => ?_⟩
      rw [List.getElem?_eq_getElem (by omega)] at hy
      injection hy with hy
      rw [← hy]; exact h5
    obtain ⟨l, hl1, hl2⟩ := list_of len key
    refine ⟨l.map (·.1), ?_, .inr ⟨_, _, rfl, by simp [hl1, hlen], fun i b y hb' hy => ?_⟩⟩
    · refine rdC_one ?_
      rcases Nat.eq_zero_or_pos len with h0 | h0
      · have : l = [] := List.eq_nil_of_length_eq_zero (by omega)
        subst this
        subst h0
        exact .emp _ _ _ (by simpa [maxLen] using hcm)
      · have hS : Sof w a.block := by
          obtain ⟨p, ⟨cs', h1, _⟩, _⟩ := key 0 h0
          obtain ⟨h2, h3⟩ := cells_some h1
          have h4 := h3 0 hz0
          rw [List.getElem?_eq_getElem (by omega)] at h4
          have := World.block_lt_of_cell? w _ h4
          rwa [add_block, add_block] at this
        have hlm : ((l.map (·.1)).map encA).length = len := by simp [hl1]
        rw [← hlm]
        refine .sl z _ a cap (l.map (·.2)) (by omega) (by simpa [maxLen] using hcm) hS (by simp [hl1]) (fun i y v hy hv => ?_) (fun i v hv => ?_) (fun i j v u hv hu' => ?_)
        · rw [List.getElem?_map, List.getElem?_map] at hy
          rw [List.getElem?_map] at hv
          cases hp : l[i]? with
          | none => rw [hp] at hv; cases hv
          | some p =>
            rw [hp] at hy hv
            simp at hy hv
            subst hy; subst hv
            exact (hl2 i p hp).2.1
        · rw [List.getElem?_map] at hv
          obtain ⟨p, hp, rfl⟩ := Option.map_eq_some_iff.1 hv
          obtain ⟨⟨cs', h1, h2⟩, _, _⟩ := hl2 i p hp
          have := (cells_some h1).1
          rw [← h2] at this
          simpa using this
        · rw [List.getElem?_map] at hv
          obtain ⟨p, hp, rfl⟩ := Option.map_eq_some_iff.1 hv
          obtain ⟨⟨cs', h1, h2⟩, _, _⟩ := hl2 i p hp
          obtain ⟨h3, h4⟩ := cells_some h1
          have hj : j < p.2.cells.size := (Array.getElem?_eq_some_iff.1 hu').1
          have hjz : j < z := by
            rw [← h2] at h3
            simp at h3
            omega
          have h5 := h4 j hjz
          rw [Addr_add_add] at h5
          rw [h5, ← h2]
          simpa using hu'
    · rw [List.getElem?_map] at hb' hy
      obtain ⟨p, hp, rfl⟩ := Option.map_eq_some_iff.1 hb'
      obtain ⟨q, hq, rfl⟩ := Option.map_eq_some_iff.1 hy
      exact (hl2 i p hp).2.2 q hq

theorem rd_int {k : IntKind} (hu : P.underlying t = some (.int k)) (h : DataW.trod enc P w base spare held fuel t cs = some x) : ∃ n, RdC w [.int k n] cs ∧ x.1 = .lit (.int k n) ∧ (Lit.int k n).wf = true := by
  obtain ⟨n, rfl, rfl, hw⟩ := DataW.trod_int hu h
  exact ⟨n, rdC_one (.int _ _), rfl, hw⟩
theorem wf_u8 {n : Int} (h : (Lit.int .u8 n).wf = true) : 0 ≤ n ∧ n ≤ 255 := bounds_u8 h
end

theorem rdv_one {P : Program} {w W : World} {r : Reach} {base : Nat} {t : TypeId} {i : TI} {x : D} {v : Value} (h : Value.okWide P W r base t v) (hT : TOk P t i) (hk : i.k.agg = false) (hc : RdC w [x] v.cells.toList) : Rd w (Sof w) x v := by
  have hne : ∀ cs, v ≠ .agg cs := by
    rintro cs rfl
    have hk2 := hT.k
    unfold tkOf at hk2
    unfold Value.okWide Cell.okWide Cell.ok at h
    cases hu : P.underlying t with
    | none => rw [hu] at h; simp at h
    | some d =>
      rw [hu] at h hk2
      cases d <;> simp at h hk2
      all_goals first
        | (rw [← hk2] at hk; cases hk)
        | (rw [← hk2.2] at hk; cases hk)
  have hv : v.cells = #[v] := by
    cases v <;> first | rfl | exact absurd rfl (hne _)
  rw [hv] at hc
  exact hc.2 0 x v rfl rfl
/-! ### the close -/
section
variable {H : Type} {enc : TypeId × Value → H} {P : Program}
theorem post_of_below {f : Func} {s : ChangeSpec} {apart fresh handsOn again : Bool} {W W' : World} {args : Array Value} {v : Value} {ds gs : List (DataW H)} {before pa pv : List MemPlace}
    (hW : DataW.Whole enc P f.params.toList s.vars apart W args.toList ds gs before)
    (hres : ∀ (b : Nat) (sp : Nat → Bool) (hd : Bool), DataW.TrodAll enc P W' b sp hd f.resultTypes.toList (v.resultList f.resultTypes.size) (s.fn H (ds ++ gs)).results [])
    (hargs : ∀ sp : Nat → Bool, (∀ p ∈ before, sp p.block = true) → DataW.TrodAll enc P W' 0 sp true f.params.toList args.toList (s.fn H (ds ++ gs)).args pa)
    (hvars : ∀ sp : Nat → Bool, (∀ p ∈ before, sp p.block = true) → DataW.TrodVars enc P W' sp s.vars (s.fn H (ds ++ gs)).vars pv)
    (hps : before = pa ++ pv) (hb : Below W.heap.size W W')
    (hok : ∀ (j : Nat) (t : TypeId) (r : Value), f.resultTypes[j]? = some t → (v.resultList f.resultTypes.size)[j]? = some r → Value.okWide P W' .any 0 t r) :
    s.post enc P f apart fresh handsOn again W args v W' := by
  have hlt : ∀ p ∈ before, p.block < W.heap.size := fun p hp => hW.lt p hp
  have hold : ∀ p ∈ before, (fun b => decide (b < W.heap.size)) p.block = true := fun p hp => by simpa using hlt p hp
  refine ⟨ds, gs, before, [], pa, pv, hW, hres _ _ _, hargs _ hold, hvars _ hold, World.keptBut_mono (fun p hp => ⟨hp, ?_⟩) (hb.frame (· ∈ before)), fun _ => ?_⟩
  · rw [hps, List.mem_append] at hp
    exact Or.inr hp
  · obtain ⟨_, _, _, _, _, hz, hn⟩ := hW
    refine ⟨hok, _, _, ([] ++ pa) ++ pv, ⟨[] ++ pa, pv, trodAll_append (hargs _ (fun _ _ => rfl)) (hres _ _ _), hvars _ (fun _ _ => rfl), rfl, ?_, ?_⟩, ?_⟩
    · intro b off hp
      have hin : MemPlace.cell b off ∈ before := by rw [hps]; simpa using hp
      rw [hb.frozen (hlt _ hin)]
      exact hz b off hin
    · intro ha
      have := hn ha
      rw [hps] at this
      simpa using this
    · intro p hp _
      rw [hps]
      simpa using hp
theorem trodAll_stays (hl : laidOutB P = true) {W W' : World} (hb : Below W.heap.size W W') : ∀ {ts : List TypeId} {vs : List Value} {ds : List (DataW H)} {ps : List MemPlace} {sp : Nat → Bool}, (ts.all fun t => P.readableRec t && decide (t < P.types.size)) = true →
    DataW.TrodAll enc P W 0 (fun _ => true) true ts vs ds ps → (∀ p ∈ ps, sp p.block = true) → (∀ p ∈ ps, p.block < W.heap.size) → DataW.TrodAll enc P W' 0 sp true ts vs ds ps
  | [], vs, ds, ps, sp, _, h, _, _ => by
    obtain ⟨rfl, rfl, rfl⟩ := trodAll_nil h
    rfl
  | t :: ts, vs, ds, ps, sp, ht, h, hs, hlt => by
    obtain ⟨v, vs', d, ds', p, q, rfl, rfl, rfl, h1, h2⟩ := trodAll_cons h
    simp only [List.all_cons, Bool.and_eq_true, decide_eq_true_eq] at ht
    exact trodAll_cons_mk (Trod_stays hl ht.1.1 ht.1.2 h1 (fun x hx => hb.same (hlt x (by simp [hx]))) fun x hx => hs x (by simp [hx])) (trodAll_stays hl hb ht.2 h2 (fun x hx => hs x (by simp [hx])) fun x hx => hlt x (by simp [hx]))
/-- A law that answers yes, called. -/
theorem calls_of_spec {f : FuncId} {fn : Func} {W : World} {vs : List Value} {ds : List D} (hfn : P.funcs[f]? = some fn) (hbody : fn.body.isSome = true) (hname : (fn.name == "runtime.NumGoroutine") = false) (h : PSpec P f (ds.map .d) (.d (.bool true))) (hr : vs.length = ds.length ∧ ∀ (i : Nat) (x : D) (v : Value), ds[i]? = some x → vs[i]? = some v → Rd W (Sof W) x v) :
    Calls P f vs.toArray W fun e W' => e = .returned (.bool true) ∧ Below W.heap.size W W' := by
  have hsto : Sto W (Sof W) (fun _ => undef) (fun _ => none) 0 := ⟨fun k hk => hk, by simp, by simp, by simp, by simp, by simp, by simp⟩
  have hd := h (fun _ => none) 0 W (Sof W) (fun _ => undef) vs hsto (by simp [hr.1]) (fun i c v hc hv => by
    rw [List.getElem?_map] at hc
    obtain ⟨x, hx, rfl⟩ := Option.map_eq_some_iff.1 hc
    exact .d _ _ (hr.2 i x v hx hv)) (lts_of fun i c hc => by
      rw [List.getElem?_map] at hc
      obtain ⟨x, hx, rfl⟩ := Option.map_eq_some_iff.1 hc
      trivial)
  obtain ⟨b, hb⟩ := Option.isSome_iff_exists.1 hbody
  have hcf : (callFunc f vs.toArray).run P W = .ok (.enter f vs.toArray) W := by
    simp only [beq_eq_false_iff_ne, ne_eq] at hname
    simp [callFunc, hfn, hb, hname]
  unfold Does at hd
  rw [hcf] at hd
  refine hd.mono ?_
  rintro e W' ⟨v, rfl, r, o', nk', S', γ', ⟨rfl, rfl, rfl⟩, hs, ht, hsr, hl⟩
  refine ⟨?_, ht.os, ht.tape, ht.output, ht.size, fun k hk => ht.kept k hk ?_⟩
  · cases hsr with
    | d _ _ hrd => cases hrd; rfl
  · rintro ⟨t, y, hy, _⟩
    cases hy
end
end Go.Proofs.YtpkcbdhjnnnkbaaGreat.Abs

set_option linter.unusedVariables false
set_option linter.unusedSimpArgs false
set_option maxRecDepth 10000
namespace Go.Proofs.YtpkcbdhjnnnkbaaGreat.Abs
open Go
section
variable {H : Type} {enc : TypeId × Value → H} {w : World} {base fuel : Nat} {spare : Nat → Bool} {held : Bool} {cs : List Value} {x : DataW H × List MemPlace}
theorem cells_of {P : Program} {t : TypeId} {i : TI} (h : TOk P t i) : P.cellsOf t = i.sz := by
  have := h.s
  unfold Program.cellsOf
  cases hq : P.info? t with
  | none => rw [hq] at this; cases this
  | some q => rw [hq] at this; simp at this; simp [this.1]
/-- What a list of changes holds. -/
def szDs : List Dlt → Nat
  | [] => 0
  | d :: r => szV d.value + szN d.path + szDs r
def I64 (n : Int) : Prop := -9223372036854775808 ≤ n ∧ n ≤ 9223372036854775807
structure AEtr (e : Etr) (d : DataW H) : Prop where
  rt : I64 e.term
  rk : I64 e.kind
  rs : I64 e.session
  rn : I64 e.number
  ri : rngV e.id
  rd : rngV e.doc
  rl : ∀ x ∈ e.deltas, rngV x.value
  sz : szV e.id + szV e.doc + szDs e.deltas + e.coll.length + e.to.length + 1 ≤ Rows.uptoBulk d
structure AFlt (f : Flt) (d : DataW H) : Prop where
  rk : I64 f.kinds
  sz : f.coll.length + szN f.path ≤ Rows.uptoBulk d
end
end Go.Proofs.YtpkcbdhjnnnkbaaGreat.Abs

set_option linter.unusedVariables false
namespace Go.Proofs.YtpkcbdhjnnnkbaaGreat.Abs
open Go
theorem open_bytes {H : Type} {enc : TypeId × Value → H} {w : World} {base fuel : Nat} {spare : Nat → Bool} {held : Bool} {cs : List Value} {x : DataW H × List MemPlace} (h : DataW.trod enc Tryz.prog w base spare held fuel 52 cs = some x) : ∃ b : List UInt8, RdC w [.sl 1 (b.map encB)] cs ∧ SlD (fun _ _ => True) b x.1 :=
  rd_slice (z := 1) encB (fun _ _ => True) ((tabOk 52 _ th52).slice rfl) (cells_of (tabOk 5 _ th5)) (by decide) (fun _ => rfl) (fun _ => trivial) h fun n cs x _ h => by
    obtain ⟨k, k1, k2, k3⟩ := rd_int ((tabOk 5 _ th5).int rfl) h
    have hk := wf_u8 k3
    refine ⟨UInt8.ofNat k.toNat, ?_, trivial⟩
    have he : encB (UInt8.ofNat k.toNat) = .int .u8 k := by
      have : (UInt8.ofNat k.toNat).toNat = k.toNat := by simp [UInt8.toNat_ofNat']; omega
      simp only [encB, this]
      congr 1; omega
    rw [he]; exact k1
theorem open_intL {H : Type} {enc : TypeId × Value → H} {w : World} {base fuel : Nat} {spare : Nat → Bool} {held : Bool} {cs : List Value} {x : DataW H × List MemPlace} (h : DataW.trod enc Tryz.prog w base spare held fuel 3 cs = some x) : ∃ n : Int, RdC w [.int .i64 n] cs ∧ True := by
  obtain ⟨n, h1, _, _⟩ := rd_int ((tabOk 3 _ th3).int rfl) h
  exact ⟨n, h1, trivial⟩

end Go.Proofs.YtpkcbdhjnnnkbaaGreat.Abs

set_option linter.unusedVariables false
set_option linter.unusedSimpArgs false
set_option maxRecDepth 10000
namespace Go.Proofs.YtpkcbdhjnnnkbaaGreat.lawDeltaReads
open Go Abs
open Go.ChangeShapes Go.WideShapes Go.ChangeAt Go.RowKit
theorem own : ownKnob Tryz.prog.godebug = none := by kernel_rfl
theorem laid : laidOutB Tryz.prog = true := by kernel_rfl
theorem contract (H : Type) (enc : TypeId × Value → H) (W : World) (base : Nat) (args : Array Value) (ds gs : List (DataW H)) (before : List MemPlace)
    (hval : ∀ (j : Nat) t v, Tryz.f8.params[j]? = some t → args[j]? = some v → Value.okWide Tryz.prog W .any base t v)
    (hW : DataW.Whole enc Tryz.prog Tryz.f8.params.toList Rows.deltaReadsSpec.vars false W args.toList ds gs before) (hk : Rows.uptoSmall H (ds ++ gs) = true) :
    Calls Tryz.prog 8 args W fun e W' => ∃ v, e = .returned v ∧ Rows.deltaReadsSpec.post enc Tryz.prog Tryz.f8 false true false false W args v W' := by
  have hW' := hW
  obtain ⟨p, q, hA0, hV, rfl, hfz, hnd⟩ := hW
  have hA : DataW.TrodAll enc Tryz.prog W 0 (fun _ => true) true Tryz.f8.params.toList args.toList ds p := hA0
  rw [Tryz.params8] at hA hval
  obtain ⟨v0, vs0, d0, ds0, p0, q0, hargs, rfl, rfl, h0, r0⟩ := trodAll_cons hA
  obtain ⟨v1, vs1, d1, ds1, p1, q1, rfl, rfl, rfl, h1, r1⟩ := trodAll_cons r0
  obtain ⟨rfl, rfl, rfl⟩ := trodAll_nil r1
  obtain rfl : args = #[v0, v1] := by cases args; simp_all
  obtain ⟨rfl, rfl⟩ := trodVars_none hV
  clear hA0
  simp only [List.append_nil] at hW' hk
  have hb : Rows.uptoBulkAll [d0, d1] ≤ 1048576 := of_decide_eq_true hk
  simp only [Rows.uptoBulkAll] at hb
  obtain ⟨n0, t0⟩ := h0
  obtain ⟨b, c0, a0⟩ := open_bytes t0
  have x0 := rdv_one (hval 0 52 v0 rfl rfl) (tabOk _ _ th52) rfl c0
  obtain ⟨n1, t1⟩ := h1
  obtain ⟨x, c1, a1⟩ := open_intL t1
  have x1 := rdv_one (hval 1 3 v1 rfl rfl) (tabOk _ _ th3) rfl c1
  refine (calls_of_spec (vs := [v0, v1]) (ds := [.sl 1 (b.map encB), .int .i64 x]) Tryz.func8 (by kernel_rfl) (by kernel_rfl) (s8 b x) ⟨rfl, fun i x v hx hv => ?_⟩).mono fun e W' ⟨he, hg⟩ => ?_
  · match i, hx, hv with
    | 0, hx, hv => simp at hx hv; subst hx; subst hv; exact x0
    | 1, hx, hv => simp at hx hv; subst hx; subst hv; exact x1
    | i + 2, hx, hv => simp at hx
  subst he
  exact ⟨_, rfl, post_of_below (pa := p0 ++ (p1 ++ [])) (pv := []) hW' (fun _ _ _ => trodAll_cons_mk (shut_bool Tryz.underlying4 _) trodAll_mk0) (fun sp hs => trodAll_stays laid hg (by kernel_rfl) hA (fun x hx => hs x (by simpa using hx)) (fun x hx => hW'.lt x (by simpa using hx))) (fun _ _ => rfl) (by simp) hg (ok_one (by kernel_rfl) rfl (okWide_bool_mk Tryz.underlying4 _))⟩
set_option maxRecDepth 100000 in
theorem lifted (os : Os) (started : os.Started) (H : Type) (enc : TypeId × Value → H) (F : Stop.Interp) :
    ReturnsInHanded {} Tryz.checked os 8 .any ((Rows.OpenSpec.upto Rows.deltaReadsSpec).pre6 enc Tryz.prog Tryz.f8 Rows.deltaReadsUptoRow.domain false) (((Rows.OpenSpec.upto Rows.deltaReadsSpec).at F).post enc Tryz.prog Tryz.f8 false true false false) := by
  refine returnsInHanded_of_cond (C := Tryz.checked) (s := Rows.OpenSpec.upto Rows.deltaReadsSpec) (k := Rows.uptoSmall) rfl own started (by kernel_rfl) Tryz.func8
    (OpenSpec.witness (enc := enc) (C := Tryz.checked) (s := Rows.OpenSpec.upto Rows.deltaReadsSpec) (k := Rows.uptoSmall) rfl false ⟨#[], #[.slice none 0 0, .int .i64 0], []⟩ 8 (by kernel_rfl) (by kernel_rfl) (by kernel_rfl)
      (x := ([.nil, .lit (.int .i64 0)], [], [])) (by kernel_rfl) rfl (by kernel_rfl)) ?_
  intro W base args ds gs before hval hW _ hk _
  exact contract H enc W base args ds gs before hval hW hk
theorem j0 : (fun (P : Program) (f : FuncId) (fn : Func) (s : ChangeSpec) (c : OpenClaim) => (c.wf (OpenSpec.ofChange s) : Bool)) Tryz.checked.prog 8 Tryz.f8 (Rows.OpenSpec.upto Rows.deltaReadsSpec).bare Rows.deltaReadsUptoRow = true := by kernel_rfl
theorem j1 : (fun (P : Program) (f : FuncId) (fn : Func) (s : ChangeSpec) (c : OpenClaim) => (laidOutB P : Bool)) Tryz.checked.prog 8 Tryz.f8 (Rows.OpenSpec.upto Rows.deltaReadsSpec).bare Rows.deltaReadsUptoRow = true := by kernel_rfl
theorem j2 : (fun (P : Program) (f : FuncId) (fn : Func) (s : ChangeSpec) (c : OpenClaim) => (mapsRowed P : Bool)) Tryz.checked.prog 8 Tryz.f8 (Rows.OpenSpec.upto Rows.deltaReadsSpec).bare Rows.deltaReadsUptoRow = true := by kernel_rfl
theorem j3 : (fun (P : Program) (f : FuncId) (fn : Func) (s : ChangeSpec) (c : OpenClaim) => (fn.params.all (P.readableRec ·) : Bool)) Tryz.checked.prog 8 Tryz.f8 (Rows.OpenSpec.upto Rows.deltaReadsSpec).bare Rows.deltaReadsUptoRow = true := by kernel_rfl
theorem j4 : (fun (P : Program) (f : FuncId) (fn : Func) (s : ChangeSpec) (c : OpenClaim) => (namedTie P c.named s.vars : Bool)) Tryz.checked.prog 8 Tryz.f8 (Rows.OpenSpec.upto Rows.deltaReadsSpec).bare Rows.deltaReadsUptoRow = true := by kernel_rfl
theorem j5 : (fun (P : Program) (f : FuncId) (fn : Func) (s : ChangeSpec) (c : OpenClaim) => ((c.stops == []) : Bool)) Tryz.checked.prog 8 Tryz.f8 (Rows.OpenSpec.upto Rows.deltaReadsSpec).bare Rows.deltaReadsUptoRow = true := by kernel_rfl
theorem j6 : (fun (P : Program) (f : FuncId) (fn : Func) (s : ChangeSpec) (c : OpenClaim) => ((P.stops == []) : Bool)) Tryz.checked.prog 8 Tryz.f8 (Rows.OpenSpec.upto Rows.deltaReadsSpec).bare Rows.deltaReadsUptoRow = true := by kernel_rfl
theorem j7 : (fun (P : Program) (f : FuncId) (fn : Func) (s : ChangeSpec) (c : OpenClaim) => ((c.knobs == []) : Bool)) Tryz.checked.prog 8 Tryz.f8 (Rows.OpenSpec.upto Rows.deltaReadsSpec).bare Rows.deltaReadsUptoRow = true := by kernel_rfl
theorem j8 : (fun (P : Program) (f : FuncId) (fn : Func) (s : ChangeSpec) (c : OpenClaim) => ((P.stopKnobs == []) : Bool)) Tryz.checked.prog 8 Tryz.f8 (Rows.OpenSpec.upto Rows.deltaReadsSpec).bare Rows.deltaReadsUptoRow = true := by kernel_rfl
theorem j9 : (fun (P : Program) (f : FuncId) (fn : Func) (s : ChangeSpec) (c : OpenClaim) => ((c.inPlace == P.inPlace f) : Bool)) Tryz.checked.prog 8 Tryz.f8 (Rows.OpenSpec.upto Rows.deltaReadsSpec).bare Rows.deltaReadsUptoRow = true := by kernel_rfl
theorem j10 : (fun (P : Program) (f : FuncId) (fn : Func) (s : ChangeSpec) (c : OpenClaim) => ((c.unfollowed == P.unfollowed f) : Bool)) Tryz.checked.prog 8 Tryz.f8 (Rows.OpenSpec.upto Rows.deltaReadsSpec).bare Rows.deltaReadsUptoRow = true := by kernel_rfl
theorem j11 : (fun (P : Program) (f : FuncId) (fn : Func) (s : ChangeSpec) (c : OpenClaim) => ((c.recurses == P.recurses f) : Bool)) Tryz.checked.prog 8 Tryz.f8 (Rows.OpenSpec.upto Rows.deltaReadsSpec).bare Rows.deltaReadsUptoRow = true := by kernel_rfl
theorem j12 : (fun (P : Program) (f : FuncId) (fn : Func) (s : ChangeSpec) (c : OpenClaim) => ((c.named == P.varsNamed f) : Bool)) Tryz.checked.prog 8 Tryz.f8 (Rows.OpenSpec.upto Rows.deltaReadsSpec).bare Rows.deltaReadsUptoRow = true := by kernel_rfl
theorem j13 : (fun (P : Program) (f : FuncId) (fn : Func) (s : ChangeSpec) (c : OpenClaim) => ((c.maps == (fn.params.toList ++ s.plain.varTypes P).any (P.mapsRec ·)) : Bool)) Tryz.checked.prog 8 Tryz.f8 (Rows.OpenSpec.upto Rows.deltaReadsSpec).bare Rows.deltaReadsUptoRow = true := by kernel_rfl
theorem j14 : (fun (P : Program) (f : FuncId) (fn : Func) (s : ChangeSpec) (c : OpenClaim) => ((c.ifaces == (fn.params.toList ++ s.plain.varTypes P).any (P.ifacesRec ·)) : Bool)) Tryz.checked.prog 8 Tryz.f8 (Rows.OpenSpec.upto Rows.deltaReadsSpec).bare Rows.deltaReadsUptoRow = true := by kernel_rfl
theorem j15 : (fun (P : Program) (f : FuncId) (fn : Func) (s : ChangeSpec) (c : OpenClaim) => ((c.mapsOut == P.mapsAmong fn.resultTypes.toList) : Bool)) Tryz.checked.prog 8 Tryz.f8 (Rows.OpenSpec.upto Rows.deltaReadsSpec).bare Rows.deltaReadsUptoRow = true := by kernel_rfl
theorem j16 : (fun (P : Program) (f : FuncId) (fn : Func) (s : ChangeSpec) (c : OpenClaim) => ((c.loops == (fn.params.toList ++ s.plain.varTypes P).any (P.loopsFrom ·)) : Bool)) Tryz.checked.prog 8 Tryz.f8 (Rows.OpenSpec.upto Rows.deltaReadsSpec).bare Rows.deltaReadsUptoRow = true := by kernel_rfl
theorem j17 : (fun (P : Program) (f : FuncId) (fn : Func) (s : ChangeSpec) (c : OpenClaim) => ((c.wideKeys == (fn.params.toList ++ s.plain.varTypes P ++ fn.resultTypes.toList).any (P.wideKeysFrom ·)) : Bool)) Tryz.checked.prog 8 Tryz.f8 (Rows.OpenSpec.upto Rows.deltaReadsSpec).bare Rows.deltaReadsUptoRow = true := by kernel_rfl
theorem j18 : (fun (P : Program) (f : FuncId) (fn : Func) (s : ChangeSpec) (c : OpenClaim) => (s.vars.all (P.varReadable ·) : Bool)) Tryz.checked.prog 8 Tryz.f8 (Rows.OpenSpec.upto Rows.deltaReadsSpec).bare Rows.deltaReadsUptoRow = true := by kernel_rfl
theorem j19 : (fun (P : Program) (f : FuncId) (fn : Func) (s : ChangeSpec) (c : OpenClaim) => (fn.resultTypes.all (fun t => P.readableRec t && decide (t < P.types.size)) : Bool)) Tryz.checked.prog 8 Tryz.f8 (Rows.OpenSpec.upto Rows.deltaReadsSpec).bare Rows.deltaReadsUptoRow = true := by kernel_rfl
theorem j20 : (fun (P : Program) (f : FuncId) (fn : Func) (s : ChangeSpec) (c : OpenClaim) => ((c.ifacesOut == fn.resultTypes.toList.any (P.ifacesRec ·)) : Bool)) Tryz.checked.prog 8 Tryz.f8 (Rows.OpenSpec.upto Rows.deltaReadsSpec).bare Rows.deltaReadsUptoRow = true := by kernel_rfl
theorem j21 : (fun (P : Program) (f : FuncId) (fn : Func) (s : ChangeSpec) (c : OpenClaim) => ((c.loopsOut == fn.resultTypes.toList.any (P.loopsFrom ·)) : Bool)) Tryz.checked.prog 8 Tryz.f8 (Rows.OpenSpec.upto Rows.deltaReadsSpec).bare Rows.deltaReadsUptoRow = true := by kernel_rfl
theorem j22 : (fun (P : Program) (f : FuncId) (fn : Func) (s : ChangeSpec) (c : OpenClaim) => ((c.plainKeys == P.plainKeys) : Bool)) Tryz.checked.prog 8 Tryz.f8 (Rows.OpenSpec.upto Rows.deltaReadsSpec).bare Rows.deltaReadsUptoRow = true := by kernel_rfl
theorem j23 : (fun (P : Program) (f : FuncId) (fn : Func) (s : ChangeSpec) (c : OpenClaim) => (c.shortTexts.isNone : Bool)) Tryz.checked.prog 8 Tryz.f8 (Rows.OpenSpec.upto Rows.deltaReadsSpec).bare Rows.deltaReadsUptoRow = true := by kernel_rfl
theorem j24 : (fun (P : Program) (f : FuncId) (fn : Func) (s : ChangeSpec) (c : OpenClaim) => (P.stopsHeard : Bool)) Tryz.checked.prog 8 Tryz.f8 (Rows.OpenSpec.upto Rows.deltaReadsSpec).bare Rows.deltaReadsUptoRow = true := by kernel_rfl
theorem j25 : (fun (P : Program) (f : FuncId) (fn : Func) (s : ChangeSpec) (c : OpenClaim) => (P.mayEnter : Bool)) Tryz.checked.prog 8 Tryz.f8 (Rows.OpenSpec.upto Rows.deltaReadsSpec).bare Rows.deltaReadsUptoRow = true := by kernel_rfl
theorem j26 : (fun (P : Program) (f : FuncId) (fn : Func) (s : ChangeSpec) (c : OpenClaim) => ((c.lifted == P.liftsFinal) : Bool)) Tryz.checked.prog 8 Tryz.f8 (Rows.OpenSpec.upto Rows.deltaReadsSpec).bare Rows.deltaReadsUptoRow = true := by kernel_rfl
theorem j27 : (fun (P : Program) (f : FuncId) (fn : Func) (s : ChangeSpec) (c : OpenClaim) => ((P.make == some c.make) : Bool)) Tryz.checked.prog 8 Tryz.f8 (Rows.OpenSpec.upto Rows.deltaReadsSpec).bare Rows.deltaReadsUptoRow = true := by kernel_rfl
theorem j28 : (fun (P : Program) (f : FuncId) (fn : Func) (s : ChangeSpec) (c : OpenClaim) => ((c.kinds == (if c.domain.isEmpty then [] else fn.params.toList.map fun t => match P.underlying t with | some (.int k) => some k | _ => none)) : Bool)) Tryz.checked.prog 8 Tryz.f8 (Rows.OpenSpec.upto Rows.deltaReadsSpec).bare Rows.deltaReadsUptoRow = true := by kernel_rfl
theorem j29 : (fun (P : Program) (f : FuncId) (fn : Func) (s : ChangeSpec) (c : OpenClaim) => ((c.pinned == c.pinnedBy) : Bool)) Tryz.checked.prog 8 Tryz.f8 (Rows.OpenSpec.upto Rows.deltaReadsSpec).bare Rows.deltaReadsUptoRow = true := by kernel_rfl
theorem j30 : (fun (P : Program) (f : FuncId) (fn : Func) (s : ChangeSpec) (c : OpenClaim) => ((c.veiled == (fn.params.toList ++ s.plain.varTypes P ++ fn.resultTypes.toList).any (P.veiledRec ·)) : Bool)) Tryz.checked.prog 8 Tryz.f8 (Rows.OpenSpec.upto Rows.deltaReadsSpec).bare Rows.deltaReadsUptoRow = true := by kernel_rfl
theorem j31 : (fun (P : Program) (f : FuncId) (fn : Func) (s : ChangeSpec) (c : OpenClaim) => (c.veiledFits P fn.params.toList (fn.params.toList ++ s.plain.varTypes P ++ fn.resultTypes.toList) : Bool)) Tryz.checked.prog 8 Tryz.f8 (Rows.OpenSpec.upto Rows.deltaReadsSpec).bare Rows.deltaReadsUptoRow = true := by kernel_rfl
theorem jand (a b : Bool) (h1 : a = true) (h2 : b = true) : (a && b) = true := by rw [h1, h2]; rfl
theorem closed : joinedFacts Tryz.checked.prog 8 Tryz.f8 (Rows.OpenSpec.upto Rows.deltaReadsSpec).bare Rows.deltaReadsUptoRow = true := jand _ _ (jand _ _ (jand _ _ (jand _ _ (jand _ _ (jand _ _ (jand _ _ (jand _ _ (jand _ _ (jand _ _ (jand _ _ (jand _ _ (jand _ _ (jand _ _ (jand _ _ (jand _ _ (jand _ _ (jand _ _ (jand _ _ (jand _ _ (jand _ _ (jand _ _ (jand _ _ (jand _ _ (jand _ _ (jand _ _ (jand _ _ (jand _ _ (jand _ _ (jand _ _ (jand _ _ j0 j1) j2) j3) j4) j5) j6) j7) j8) j9) j10) j11) j12) j13) j14) j15) j16) j17) j18) j19) j20) j21) j22) j23) j24) j25) j26) j27) j28) j29) j30) j31
theorem over : Rows.deltaReadsUptoRow.holds Tryz.pinned (Rows.OpenSpec.upto Rows.deltaReadsSpec) :=
  OpenClaim.holds_of_cond 8 Tryz.f8 rfl rfl rfl rfl rfl rfl rfl ⟨rfl, rfl, rfl, rfl, rfl⟩ rfl rfl rfl rfl rfl (by kernel_rfl) Tryz.func8 closed
    (of_decide_eq_true (by kernel_rfl)) (by unfold Func.isWrapper; first | (rw [if_pos (by decide +kernel)]; kernel_rfl) | (rw [if_neg (by decide +kernel)]; exact ⟨rfl, rfl⟩))
    (fun os started H enc _ F => lifted os started H enc F)
end Go.Proofs.YtpkcbdhjnnnkbaaGreat.lawDeltaReads
namespace Go.Proofs.YtpkcbdhjnnnkbaaGreat
theorem deltaReads_upto_holds : Rows.DeltaReadsUptoSaid := lawDeltaReads.over
end Go.Proofs.YtpkcbdhjnnnkbaaGreat
