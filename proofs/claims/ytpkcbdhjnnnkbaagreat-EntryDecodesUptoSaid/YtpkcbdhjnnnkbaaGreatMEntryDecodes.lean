/- EntryDecodes: called with any bytes that hold together at most 1048576 values and letters, the law answers true, and the bytes read afterwards as they read before. -/
import Derived.Test.YtpkcbdhjnnnkbaaGreatMEntryDecodes5
import Derived.Test.YtpkcbdhjnnnkbaaGreatMEntryDecodes3
set_option linter.unusedSimpArgs false
set_option linter.unusedVariables false
set_option maxHeartbeats 1000000
set_option maxRecDepth 100000
namespace Go.Proofs.YtpkcbdhjnnnkbaaGreat.Abs
open Go
def codP (p:List Str):Str:=p.flatMap txtC
def codD1 (d:Dlt) (j:Nat):Str:=b8 d.kind :: (grp (u64 d.path.length)++codP (d.path.take j))
def codDv (d:Dlt):Str:=if d.kind=1 then codV d.value else if d.kind=3 then grp (u64 d.n) else []
def codD (d:Dlt):Str:=codD1 d d.path.length++codDv d
def accDs (l:List Dlt) (i:Nat):Str:=grp (u64 l.length)++(l.take i).flatMap codD
def codDs (l:List Dlt):Str:=grp (u64 l.length)++l.flatMap codD
theorem accDs_end {l:List Dlt} {i:Nat} (h:¬ i < l.length):accDs l i=codDs l:=by
 rw [accDs,codDs,List.take_of_length_le (by omega)]
theorem accDs_snoc {l:List Dlt} {i:Nat} (h:i < l.length):accDs l (i+1)=accDs l i++codD (l[i]'h):=by
 rw [accDs,accDs,List.take_succ_eq_append_getElem h,List.flatMap_append];simp
theorem codD1_snoc {d:Dlt} {j:Nat} (h:j < d.path.length):codD1 d (j+1)=codD1 d j++txtC (d.path[j]'h):=by
 simp only [codD1,codP,List.take_succ_eq_append_getElem h,List.flatMap_append];simp
theorem codP_len:∀ {p:List Str} (h:p.all nameV=true),(codP p).length≤42 * p.length
 | [],_=>by simp [codP]
 | s :: p,h=>by
  simp only [List.all_cons,Bool.and_eq_true] at h;have h1:=codP_len h.2;have h2:=textN_le s;have h3:s.length≤32:=by have:=h.1;simp only [nameV,decide_eq_true_eq] at this;exact this.2.1
  simp only [codP,List.flatMap_cons,List.length_append,List.length_cons,txtC_len] at *;omega
theorem mayD_parts {d:Dlt} (h:mayD d=true):d.path.all nameV=true∧d.path.length≤8∧(d.kind=1→checkV d.value=0)∧(d.kind=3→0≤d.n∧d.n≤999):=by
 simp only [mayD,pathV,Bool.and_eq_true,decide_eq_true_eq] at h;refine ⟨h.1.1.1,h.1.2,fun hk=>?_,fun hk=>?_⟩
 ·have:=h.2;rw [if_pos hk] at this;simp at this;exact this.1
 ·have:=h.2;rw [if_neg (by omega),if_neg (by omega),if_pos hk] at this;simp at this;omega
theorem codD1_len {d:Dlt} {j:Nat} (h:mayD d=true):(codD1 d j).length≤347:=by
 obtain ⟨h1,h2,_⟩:=mayD_parts h;have h3:=codP_len (p:=d.path.take j) (List.all_eq_true.2 fun x hx=>List.all_eq_true.1 h1 x (List.mem_of_mem_take hx));have h4:=grp_l d.path.length;have h5:(d.path.take j).length≤8:=by simp;omega
 simp only [codD1,List.length_cons,List.length_append];omega
theorem check_size {v:Val} (h:checkV v=0):sizeV v≤4096:=by
 unfold checkV at h;split at h
 ·cases h
 ·split at h
  ·cases h
  ·split at h
   ·cases h
   ·omega
theorem codD_len {d:Dlt} (h:mayD d=true):(codD d).length≤4600:=by
 have h1:=codD1_len (j:=d.path.length) h;obtain ⟨_,_,h2,_⟩:=mayD_parts h;have h3:=grp_l d.n;simp only [codD,codDv,List.length_append];split
 ·rename_i hk;have:=codV_len (check_may (h2 hk));have:=check_size (h2 hk);omega
 ·split
  ·omega
  ·simp;omega
theorem accDs_len {l:List Dlt} (h:∀ d∈l,mayD d=true):∀ i,i≤l.length→(accDs l i).length≤10+4600 * i:=fun i=>by
 induction i with
 | zero=>intro _;have:=grp_l l.length;simp only [accDs,List.take_zero,List.flatMap_nil,List.append_nil];omega
 | succ i ih=>
  intro hi;have:=ih (by omega);have h2:=codD_len (h _ (List.getElem_mem (by omega:i < l.length)));rw [accDs_snoc (by omega),List.length_append];omega
theorem checkD_len {l:List Dlt} (h:checkD l=0):l.length≤64:=by
 unfold checkD at h;split at h
 ·cases h
 ·omega
theorem rv {P:Program} {f:FuncId} {v:Val} {c:SV} {e z:Nat} {xs:List D} (h:RSpec P f [c,.d (encV v)] e z xs):RSpec P f [c,.d (.agg (valCells v))] e z xs:=encV_eq v ▸ h
theorem dcode1 {d:Dlt} {ys:List D} {a:Str} {n:Nat} (h:n=d.path.length):ys++bytesD a++[D.int .u8 (IntKind.u8.wrap d.kind)]++bytesD (grp (u64 (n:Int)))=ys++bytesD (a++codD1 d 0):=by
 subst h;rw [bytesD_one];simp only [List.append_assoc,← bytesD_append];simp [codD1,codP]
theorem dcodeP {d:Dlt} {ys:List D} {a:Str} {j:Nat} (h:j < d.path.length):ys++bytesD (a++codD1 d j)++bytesD (grp (u64 (d.path[j]'h).length)++d.path[j]'h)=ys++bytesD (a++codD1 d (j+1)):=by
 rw [codD1_snoc h];simp only [txtC,bytesD_append,List.append_assoc]
theorem dcodeE {l:List Dlt} {ys:List D} {i j:Nat} {x:Str} {d:Dlt} (h:i < l.length) (hd:d=l[i]'h) (hj:j=d.path.length) (hx:x=codDv d):ys++bytesD (accDs l i++codD1 d j)++bytesD x=ys++bytesD (accDs l (i+1)):=by
 subst hj hx hd;rw [accDs_snoc h,codD];simp only [bytesD_append,List.append_assoc]
theorem dcodeN {l:List Dlt} {ys:List D} {i j:Nat} {d:Dlt} (h:i < l.length) (hd:d=l[i]'h) (hj:j=d.path.length) (h1:¬ d.kind=1) (h3:¬ d.kind=3):ys++bytesD (accDs l i++codD1 d j)=ys++bytesD (accDs l (i+1)):=by
 have:=dcodeE (ys:=ys) (x:=[]) h hd hj (by simp [codDv,h1,h3]);simpa [bytesD] using this
theorem dcode0 {l:List Dlt} {ys:List D} {n:Nat} (h:n=l.length):ys++bytesD (grp (u64 (n:Int)))=ys++bytesD (accDs l 0):=by
 subst h;simp [accDs]
theorem fn34:FnOk Tryz.prog 34 63 [4] (bodyOf Tryz.f34):=⟨Tryz.f34,Tryz.func34,by kernel_rfl,by decide,by kernel_rfl,by kernel_rfl⟩
theorem s34 (l:List Dlt) (ys:List D) (hc:checkD l=0) (hok:∀ d∈l,okD d) (hyl:ys.length≤35184372088832):RSpec Tryz.prog 34 [.d (.sl 1 ys),.d (.sl 8 (l.map encD))] 5 1 (ys++bytesD (codDs l)):=by
 have hcl:=checkD_len hc;have hma:=checkD_all hc;refine RSpec.of fn34 (by simp) fun o nk=>?_;refine wr (ua (u_nil (wr (um ?_))));refine u_step (g_dcall (s84 ys (by omega)) rfl fun c3 q3 o3 nk3 hd3 hq3 hn3 hk3=>?_);refine u_step (o_assignV (v:=c3) rfl ?_);refine u_nil (WP.seq fun K4 hK4=>?_);refine wr (um ?_);refine u_step (o_pcall (s72 l (fun _=>hok)) rfl ?_);refine ub (u_nil ?_);refine wc (fun hc6=>?_) (fun hc6=>?_)
 ·
  simp at hc6;exact absurd hc hc6
 ·
  simp at hc6;refine WP.skip (hK4 _ (wr ?_));refine u_step (o_moveV (v:=c3) rfl ?_);refine um (un th28 ?_);refine u_step (g_wcall (s85 ys (l.map encD).length (by omega) (by simp;omega) (by omega)) hd3 rfl fun o8 hb8 hk8=>?_);refine uS (u_nil (WP.seq fun K9 hK9=>?_));refine wr (um (un th28 ?_));refine um (u_nil (WP.block ?_));refine WP.loopL (ι:=Nat×Nat×(Nat→Option AO)×Nat) (fun ⟨i,p,o2,nk2⟩=>⟨al [(0,.row p),(19,.d (.sl 8 (l.map encD))),(20,.d (.int .i64 (l.map encD).length)),(21,.d (.int .i64 i))],o2,nk2⟩) (fun ⟨i,p,o2,nk2⟩=>i≤l.length∧nk≤p∧p < nk2∧o2 p=some (.row 5 1 (ys++bytesD (accDs l i)))∧(∀ t,t < nk→o2 t=o t)) (fun ⟨i,p,o2,nk2⟩=>l.length - i) (fun ⟨i,p,o2,nk2⟩ hA=>?_) ⟨0,nk3,o8,(nk3+1)⟩ ?_ ?_
  ·
   obtain ⟨hle,hnp,hpn,hrw,hfr⟩:=hA;have hal:=accDs_len hma i hle;refine wr (ub (u_nil (WP.seq fun K12 hK12=>?_)));refine wc (fun hc13=>?_) (fun hc13=>?_)
   ·
    simp at hc13;refine WP.skip (hK12 _ (WP.seq fun K14 hK14=>?_));refine WP.block ?_;have hil:i < l.length:=by omega
    obtain ⟨d,hd⟩:∃ d,d=l[i]:=⟨_,rfl⟩;have hgd:(l.map encD)[((i:Nat):Int).toNat]?=some (encD d):=by rw [hd];simp [hil]
    have hmd:mayD d=true:=hd ▸ hma _ (List.getElem_mem hil);have hkd:okD d:=hd ▸ hok _ (List.getElem_mem hil);have hp8:=(mayD_parts hmd).2.1;refine wr ?_;refine u_step (o_ia_sl rfl rfl th28 rfl th83 rfl (Int.natCast_nonneg _) hgd ?_);refine uL th83 ?_;refine u_step (g_alloc th83 rfl fun o16 hb16 hk16=>?_);have hrw_16:=(hk16 _ (by omega)).trans hrw;refine u_step0 (g_sta rfl rfl th83 rfl hb16 (by first | (simp;done) | (simp [D.leaves,D.width,valCells];done) | decide) fun o17 hb17 hk17=>?_);have hrw_17:=(hk17 _ (by omega)).trans hrw_16;refine u_nil (WP.seq fun K18 hK18=>?_);refine WP.dr2 [.q 0 0,.q 0 0,.q 0 0,.q 0 0,.q 0 0,.w 0,.q 0 1,.q 0 1,.q 0 1,.w 1,.q 2 2] [5,9] ((nk2+1)+1) (((nk2+1)+1)+1) tabOk (by kernel_rfl) rfl (by kernel_rfl) (by kernel_rfl) ?_;apply Exists.intro;apply Exists.intro;refine e_step rfl (o_moveV (v:=.row _) rfl ⟨rfl,rfl,rfl⟩) ?_;refine e_step rfl (o_fa_loc rfl th83 rfl rfl th3 (by decide) hb17 ⟨rfl,rfl,rfl⟩) ?_;refine e_step rfl (o_ld_loc rfl th3 rfl hb17 rfl ⟨rfl,rfl,rfl⟩) ?_;refine e_step rfl (o_cv_int rfl th3 th5 rfl ⟨rfl,rfl,rfl⟩) ?_;refine e_step rfl (o_bs rfl th52 rfl th5 rfl rfl (by decide) rfl (by decide) (by decide) ⟨rfl,rfl,rfl⟩) ?_;refine e_w rfl rfl (w_ap rfl rfl th52 rfl th5 rfl rfl (by decide) rfl hrw_17 (by simp only [List.length_append,bytesD_length,List.length_cons,List.length_nil];omega) (by simp only [List.length_append,bytesD_length,List.length_cons,List.length_nil];omega) ⟨rfl,rfl,rfl⟩) ?_;refine e_step2 rfl rfl (o_fa_loc rfl th83 rfl rfl th22 (by decide) hb17 ⟨rfl,rfl,rfl⟩) (o_fa_loc rfl th83 rfl rfl th22 (by decide) (((upd_ne _ _ (by omega)).trans (upd_ne _ _ (by omega))).trans hb17) ⟨rfl,rfl,rfl⟩) ?_;refine e_step2 rfl rfl (o_ld_loc rfl th22 rfl hb17 rfl ⟨rfl,rfl,rfl⟩) (o_ld_loc rfl th22 rfl (((upd_ne _ _ (by omega)).trans (upd_ne _ _ (by omega))).trans hb17) rfl ⟨rfl,rfl,rfl⟩) ?_;refine e_step2 rfl rfl (o_len_sl rfl th22 rfl ⟨rfl,rfl,rfl⟩) (o_len_sl rfl th22 rfl ⟨rfl,rfl,rfl⟩) ?_;refine e_w rfl rfl (w_wcallR (s85 _ (d.path.map D.str).length (by omega) (by simp;omega) (by simp only [List.length_append,bytesD_length,List.length_cons,List.length_nil];omega)) (upd_same _ _ _) rfl ⟨rfl,rfl,rfl⟩) ?_;refine e_step rfl (o_assignV (v:=.row _) rfl ⟨rfl,rfl,rfl⟩) ?_;refine e_nil rfl fun o21 ho21=>?_;have hbb16_21:=(ho21 _).trans (((upd_ne _ _ (by omega)).trans (upd_ne _ _ (by omega))).trans (((upd_ne _ _ (by omega)).trans (upd_ne _ _ (by omega))).trans hb17));have hbr20_21:=(ho21 _).trans (upd_same _ _ _);have hk21:∀ t,t < nk→o21 t=o17 t:=fun t ht=>(ho21 t).trans (((upd_ne _ _ (by omega)).trans (upd_ne _ _ (by omega))).trans ((upd_ne _ _ (by omega)).trans (upd_ne _ _ (by omega))));refine hK18 _ (WP.seq fun K22 hK22=>?_);refine wr (uf th83 th22 hbb16_21 ?_);refine ul th22 hbb16_21 ?_;refine un th22 ?_;refine um (u_nil (WP.block ?_));refine WP.loopL (ι:=Nat×Nat×(Nat→Option AO)×Nat) (fun ⟨j,p3,o3,nk3⟩=>⟨al [(0,.row p3),(6,.loc nk2 0),(19,.d (.sl 8 (l.map encD))),(20,.d (.int .i64 (l.map encD).length)),(21,.d (.int .i64 i)),(36,.d (.sl 1 (d.path.map .str))),(37,.d (.int .i64 (d.path.map D.str).length)),(38,.d (.int .i64 j))],o3,nk3⟩) (fun ⟨j,p3,o3,nk3⟩=>j≤d.path.length∧nk2 < p3∧p3 < nk3∧o3 nk2=some (.box (([.int .i64 d.kind,.sl 1 (d.path.map .str),.int .i64 d.value.kind,.int .i64 d.value.int,.str d.value.text,.sl 5 (encVs d.value.items),.sl 1 (d.value.names.map .str),.int .i64 d.n]:List D).map .d))∧o3 p3=some (.row 5 1 (ys++bytesD (accDs l i++codD1 d j)))∧(∀ t,t < nk→o3 t=o t)) (fun ⟨j,p3,o3,nk3⟩=>d.path.length - j) (fun ⟨j,p3,o3,nk3⟩ hA=>?_) ⟨0,((nk2+1)+1),o21,(((nk2+1)+1)+1)⟩ ?_ ?_
    ·
     obtain ⟨hlj,hnp3,hpn3,hob,hrw3,hfr3⟩:=hA;have hdl:=codD1_len (j:=j) hmd;refine wr (ub (u_nil (WP.seq fun K25 hK25=>?_)));refine wc (fun hc26=>?_) (fun hc26=>?_)
     ·
      simp at hc26;refine WP.skip (hK25 _ (WP.seq fun K27 hK27=>?_));refine WP.block (wr ?_)
      refine u_step (o_ia_map rfl rfl th22 rfl th9 rfl (by omega) ?_)
      refine uL th9 ?_;refine ua (u_nil (WP.reg tabOk rfl ?_));refine uR (um ?_);refine u_step (o_rcall (s86 d.path[j] (by have:=List.all_eq_true.1 (mayD_parts hmd).1 _ (List.getElem_mem (by omega:j < d.path.length));simp only [nameV,decide_eq_true_eq] at this;omega)) rfl fun q29 o29 nk29 hqa29 hqb29 hb29 hk29=>?_);have hob_29:=(hk29 _ (by omega)).trans hob;have hrw3_29:=(hk29 _ (by omega)).trans hrw3;refine u_step (g_apr rfl rfl th52 rfl th5 rfl rfl (by decide) hrw3_29 hb29 (by have:=List.all_eq_true.1 (mayD_parts hmd).1 _ (List.getElem_mem (by omega:j < d.path.length));simp only [nameV,decide_eq_true_eq] at this;have:=textN_le d.path[j];simp only [List.length_append,bytesD_length,textN] at *;omega) (by have:=List.all_eq_true.1 (mayD_parts hmd).1 _ (List.getElem_mem (by omega:j < d.path.length));simp only [nameV,decide_eq_true_eq] at this;have:=textN_le d.path[j];simp only [List.length_append,bytesD_length,textN] at *;omega) fun o30 hb30 hk30=>?_);have hob_30:=(hk30 _ (by omega) (by omega)).trans hob_29;have hb29_30:=(hk30 _ (by omega) (by omega)).trans hb29;refine uS (u_nil (hK27 _ (WP.reg tabOk rfl ?_)));refine ub (um (u_nil ?_));refine ⟨⟨j+1,nk29,o30,(nk29+1)⟩,⟨by omega,by omega,by omega,hob_30,(hb30).trans (congrArg (fun z=>some (AO.row 5 1 z)) (dcodeP (by omega))),(fun t ht=>(hk30 t (by omega) (by omega)).trans ((hk29 t (by omega)).trans ((hfr3 t (by omega)))))⟩,by simp only;omega,?_⟩;refine Le.al ?_;simp only [List.forall_mem_cons];exact ⟨rfl,rfl,rfl,rfl,rfl,rfl,rfl,cnt (by omega),by simp⟩
     ·
      simp at hc26;refine WP.exit ?_;refine hK22 _ (wr (uf th83 th3 hob ?_));refine ul th3 hob ?_;refine u_nil (WP.block (wr (ub (ua (u_nil ?_)))));refine wc (fun hc33=>?_) (fun hc33=>?_)
      ·
       simp at hc33;refine WP.reg tabOk rfl ?_;refine uR ?_;refine uf th83 th27 hob ?_;refine ug th27 hob ?_;refine u_step (g_rcallF (us:=[.row _,.d _]) hrw3 (rv (v:=d.value) (s87 d.value (ys++bytesD (accDs l i++codD1 d j)) ((mayD_parts hmd).2.2.1 hc33) hkd.1 hkd.2 (by have:=hkd.2;simp only [List.length_append,bytesD_length];omega))) rfl (by simp only [List.map_cons,List.map_nil,SV.frz,if_true] <;> rfl) fun o34 hb34 hk34=>?_);have hob_34:=(hk34 _ (by omega) (by omega)).trans hob;refine uS ?_;refine u_nil ?_;refine hK14 _ ?_;refine WP.reg tabOk rfl ?_;refine ub ?_;refine um ?_;refine u_nil ?_;refine ⟨⟨i+1,nk3,o34,(nk3+1)⟩,⟨by omega,by omega,by omega,(hb34).trans (congrArg (fun z=>some (AO.row 5 1 z)) (dcodeE hil hd (by omega) (by simp only [codDv];rw [if_pos hc33]))),(fun t ht=>(hk34 t (by omega) (by omega)).trans ((hfr3 t (by omega))))⟩,by simp only;omega,?_⟩;refine Le.al ?_;simp only [List.forall_mem_cons];exact ⟨rfl,rfl,rfl,cnt (by omega),by simp⟩
      ·
       simp at hc33;refine wr (ub (ua (u_nil ?_)));refine wc (fun hc36=>?_) (fun hc36=>?_)
       ·
        simp at hc36;refine WP.reg tabOk rfl ?_;refine uR (uf th83 th3 hob ?_);refine ul th3 hob ?_;refine u_step (g_wcallR (s85 _ d.n ((mayD_parts hmd).2.2.2 hc36).1 (by have:=((mayD_parts hmd).2.2.2 hc36).2;omega) (by simp only [List.length_append,bytesD_length];omega)) hrw3 rfl fun o37 hb37 hk37=>?_);have hob_37:=(hk37 _ (by omega) (by omega)).trans hob;refine uS (u_nil (hK14 _ (WP.reg tabOk rfl ?_)));refine ub (um (u_nil ?_));refine ⟨⟨i+1,nk3,o37,(nk3+1)⟩,⟨by omega,by omega,by omega,(hb37).trans (congrArg (fun z=>some (AO.row 5 1 z)) (dcodeE hil hd (by omega) (by simp only [codDv];rw [if_neg (by omega),if_pos hc36]))),(fun t ht=>(hk37 t (by omega) (by omega)).trans ((hfr3 t (by omega))))⟩,by simp only;omega,?_⟩;refine Le.al ?_;simp only [List.forall_mem_cons];exact ⟨rfl,rfl,rfl,cnt (by omega),by simp⟩
       ·
        simp at hc36;refine WP.skip (hK14 _ (WP.reg tabOk rfl ?_));refine ub (um (u_nil ?_));refine ⟨⟨i+1,p3,o3,nk3⟩,⟨by omega,by omega,by omega,(hrw3).trans (congrArg (fun z=>some (AO.row 5 1 z)) (dcodeN hil hd (by omega) (by omega) (by omega))),(fun t ht=>(hfr3 t (by omega)))⟩,by simp only;omega,?_⟩;refine Le.al ?_;simp only [List.forall_mem_cons];exact ⟨rfl,rfl,rfl,cnt (by omega),by simp⟩
    ·
     refine ⟨by omega,by omega,by omega,hbb16_21,(hbr20_21).trans (congrArg (fun z=>some (AO.row 5 1 z)) (dcode1 (by simp))),(fun t ht=>(hk21 t (by omega)).trans ((hk17 t (by omega)).trans ((hk16 t (by omega)).trans ((hfr t (by omega))))))⟩
    ·
     refine Le.al ?_;simp only [List.forall_mem_cons];exact ⟨rfl,rfl,rfl,rfl,rfl,rfl,rfl,rfl,by simp⟩
   ·
    simp at hc13;refine WP.exit ?_;refine hK9 _ (wr (uR (uS (u_nil (WP.ret ?_)))));refine rrow_okx rfl (by omega) (by omega) hrw (fun t ht=>(hfr t (by omega))) ?_;rw [accDs_end (by omega)]
  ·
   refine ⟨by omega,by omega,by omega,(hb8).trans (congrArg (fun z=>some (AO.row 5 1 z)) (dcode0 (by simp))),(fun t ht=>(hk8 t (by omega) (fun e=>by have:=hq3 _ e.symm;omega)).trans ((hk3 t (by omega))))⟩
  ·
   refine Le.al ?_;simp only [List.forall_mem_cons];exact ⟨rfl,rfl,rfl,rfl,by simp⟩
def hsB (k:Int) (bit:Int):Bool:=decide (bitsOf .and .i64 (if fieldsV k < 0 then 0 else fieldsV k) bit≠0)
theorem hasL_eq (k:Int):hasL k=[.bool (hsB k 1),.bool (hsB k 2),.bool (hsB k 4),.bool (hsB k 8),.bool (hsB k 16)]:=by
 unfold hasL hsB fieldsV;by_cases h1:k=1
 ·subst h1;rfl
 by_cases h2:k=2
 ·subst h2;rfl
 by_cases h3:k=3
 ·subst h3;rfl
 by_cases h4:k=4
 ·subst h4;rfl
 by_cases h5:k=5
 ·subst h5;rfl
 by_cases h6:k=6
 ·subst h6;rfl
 by_cases h7:k=7
 ·subst h7;rfl
 simp only [h1,h2,h3,h4,h5,h6,h7,if_false,or_self];rfl
def optS {α:Type} (b:Bool) (z:α) (r:SB→α×SB) (s:SB):α×SB:=if b=true then r s else (z,s)
theorem optS_yes {α:Type} {b:Bool} {z:α} {r:SB→α×SB} {s:SB} (h:b=true):optS b z r s=r s:=if_pos h
theorem optS_no {α:Type} {b:Bool} {z:α} {r:SB→α×SB} {s:SB} (h:¬ b=true):optS b z r s=(z,s):=if_neg h
def V0:Val:=.mk 0 0 [] [] []
def eT (s:SB):=cntS s 1099511627776
def eK (s:SB):=rdByte (eT s).2
def eS (s:SB):=cntS (eK s).2 255
def eN (s:SB):=cntS (eS s).2 1099511627776
def eC (s:SB):=optS (hsB (eK s).1 1) [] (fun s=>txtS s 32) (eN s).2
def eO (s:SB):=optS (hsB (eK s).1 2) [] (fun s=>txtS s 32) (eC s).2
def eI (rv:SB→Val×SB) (s:SB):=optS (hsB (eK s).1 4) V0 rv (eO s).2
def eD (rv:SB→Val×SB) (s:SB):=optS (hsB (eK s).1 8) V0 rv (eI rv s).2
def eL (rv:SB→Val×SB) (rd:SB→List Dlt×SB) (s:SB):=optS (hsB (eK s).1 16) [] rd (eD rv s).2
def eAll (rv:SB→Val×SB) (rd:SB→List Dlt×SB) (s:SB):Etr:=⟨(eT s).1,(eK s).1,(eC s).1,(eO s).1,(eI rv s).1,(eD rv s).1,(eL rv rd s).1,(eS s).1,(eN s).1⟩
def E0:Etr:=⟨0,0,[],[],V0,V0,[],0,0⟩
noncomputable def rdEt (rv:SB→Val×SB) (rd:SB→List Dlt×SB) (s:SB):Etr×SB:=if (eL rv rd s).2.2=true∨¬ mayE (eAll rv rd s)=true then (E0,((eL rv rd s).2.1,true)) else (eAll rv rd s,(eL rv rd s).2)
theorem optS_q {α:Type} {x y:Bool} {z:α} {r r':SB→α×SB} {a b:SB} (hx:x=y) (h:SBq a b) (hr:∀ a b,SBq a b→(r a).1=(r' b).1∧SBq (r a).2 (r' b).2):(optS x z r a).1=(optS y z r' b).1∧SBq (optS x z r a).2 (optS y z r' b).2:=by
 subst hx;unfold optS;split
 ·exact hr a b h
 ·exact ⟨rfl,h⟩
theorem optS_le {α:Type} {x:Bool} {z:α} {r:SB→α×SB} {s:SB} (h:∀ s,(r s).2.1.length≤s.1.length):(optS x z r s).2.1.length≤s.1.length:=by
 unfold optS;split
 ·exact h s
 ·exact Nat.le_refl _
theorem eN_le (s:SB):(eN s).2.1.length≤s.1.length:=Nat.le_trans (cnt_le _ _) (Nat.le_trans (cnt_le _ _) (Nat.le_trans (byte_le _) (cnt_le _ _)))
theorem eC_le (s:SB):(eC s).2.1.length≤s.1.length:=Nat.le_trans (optS_le fun s=>txt_le s 32) (eN_le s)
theorem eO_le (s:SB):(eO s).2.1.length≤s.1.length:=Nat.le_trans (optS_le fun s=>txt_le s 32) (eC_le s)
theorem eI_le {rv:SB→Val×SB} (hv:∀ s,(rv s).2.1.length≤s.1.length) (s:SB):(eI rv s).2.1.length≤s.1.length:=Nat.le_trans (optS_le hv) (eO_le s)
theorem eD_le {rv:SB→Val×SB} (hv:∀ s,(rv s).2.1.length≤s.1.length) (s:SB):(eD rv s).2.1.length≤s.1.length:=Nat.le_trans (optS_le hv) (eI_le hv s)
theorem e_q {a b:SB} (h:SBq a b):eAll rdAll rdDsP a=eAll rdAllR rdDsR b∧SBq (eL rdAll rdDsP a).2 (eL rdAllR rdDsR b).2:=by
 have ht:=cnt_q (m:=1099511627776) h;have hk:=byte_q ht.2;have hs:=cnt_q (m:=255) hk.2;have hn:=cnt_q (m:=1099511627776) hs.2;have hkk:(eK a).1=(eK b).1:=hk.1;have hc:=optS_q (z:=([]:Str)) (r:=fun s=>txtS s 32) (r':=fun s=>txtS s 32) (congrArg (fun k=>hsB k 1) hkk) hn.2 fun a b h=>txt_q h;have ho:=optS_q (z:=([]:Str)) (r:=fun s=>txtS s 32) (r':=fun s=>txtS s 32) (congrArg (fun k=>hsB k 2) hkk) hc.2 fun a b h=>txt_q h;have hi:=optS_q (z:=V0) (congrArg (fun k=>hsB k 4) hkk) ho.2 fun a b h=>all_q h;have hd:=optS_q (z:=V0) (congrArg (fun k=>hsB k 8) hkk) hi.2 fun a b h=>all_q h;have hl:=optS_q (z:=([]:List Dlt)) (congrArg (fun k=>hsB k 16) hkk) hd.2 fun a b h=>rdDs_q h;refine ⟨?_,hl.2⟩;unfold eAll;have h1:(eT a).1=(eT b).1:=ht.1;have h2:(eS a).1=(eS b).1:=hs.1;have h3:(eN a).1=(eN b).1:=hn.1;have h4:(eC a).1=(eC b).1:=hc.1;have h5:(eO a).1=(eO b).1:=ho.1;have h6:(eI rdAll a).1=(eI rdAllR b).1:=hi.1;have h7:(eD rdAll a).1=(eD rdAllR b).1:=hd.1;have h8:(eL rdAll rdDsP a).1=(eL rdAllR rdDsR b).1:=hl.1;rw [h1,h2,h3,h4,h5,h6,h7,h8,hkk]
theorem rdEt_q {a b:SB} (h:SBq a b):(rdEt rdAll rdDsP a).1=(rdEt rdAllR rdDsR b).1∧SBq (rdEt rdAll rdDsP a).2 (rdEt rdAllR rdDsR b).2:=by
 have hq:=e_q h;unfold rdEt;rw [hq.1,hq.2.1];split
 ·exact ⟨rfl,SBq.bad rfl rfl⟩
 ·exact ⟨rfl,hq.2⟩
theorem rdDl_ok (s:SB) (hx:s.1.length≤1048576):okD (rdDl s).1:=by
 unfold rdDl spoilD rdD3;simp only;have hl:=Nat.le_trans (rdTs_le (cntS (rdByte s).2 8).1.toNat (cntS (rdByte s).2 8).2 []) (Nat.le_trans (cnt_le _ _) (byte_le s));split
 ·exact ⟨rdAll_rng _,rdAll_sz _ (by omega)⟩
 ·split
  ·exact ⟨⟨by decide,trivial⟩,by simp [szV,szVs,szN]⟩
  ·exact ⟨⟨by decide,trivial⟩,by simp [szV,szVs,szN]⟩
theorem rdDls_ok:∀ (n:Nat) (s:SB) (ds:List Dlt),s.1.length≤1048576→(∀ d∈ds,okD d)→∀ d∈(rdDls n s ds).1,okD d
 | 0,s,ds,hx,h=>h
 | n+1,s,ds,hx,h=>by
  refine rdDls_ok n _ _ (Nat.le_trans (rdDl_le s) hx) ?_;split
  ·exact h
  ·intro d hd;rcases List.mem_append.1 hd with hd | hd
   ·exact h d hd
   ·rw [List.mem_singleton.1 hd];exact rdDl_ok s hx
theorem rdDsP_ok (s:SB) (hx:s.1.length≤1048576):∀ d∈(rdDsP s).1,okD d:=by
 have h:=rdDls_ok (cntS s 64).1.toNat (cntS s 64).2 [] (Nat.le_trans (cnt_le _ _) hx) (by simp);unfold rdDsP rdDq;simp only;split
 ·simp
 ·exact h
theorem okE_read (s:SB) (hx:s.1.length≤1048576):OkE (eAll rdAll rdDsP s):=by
 have l1:=eO_le s;have l2:=eI_le rdAll_le s;have l3:=eD_le rdAll_le s;refine ⟨?_,?_,?_,?_,fun _=>?_⟩
 ·show rngV (optS _ V0 rdAll _).1;unfold optS;split
  ·exact rdAll_rng _
  ·exact ⟨by decide,trivial⟩
 ·show szV (optS _ V0 rdAll _).1≤_;unfold optS;split
  ·exact rdAll_sz _ (by omega)
  ·simp [V0,szV,szVs,szN]
 ·show rngV (optS _ V0 rdAll _).1;unfold optS;split
  ·exact rdAll_rng _
  ·exact ⟨by decide,trivial⟩
 ·show szV (optS _ V0 rdAll _).1≤_;unfold optS;split
  ·exact rdAll_sz _ (by omega)
  ·simp [V0,szV,szVs,szN]
 ·show ∀ d∈(optS _ ([]:List Dlt) rdDsP _).1,okD d;unfold optS;split
  ·exact rdDsP_ok _ (by omega)
  ·simp
theorem okE_readR (s:SB) (hx:s.1.length≤1048576):OkE (eAll rdAllR rdDsR s):=by
 rw [← (e_q (SBq.refl s)).1];exact okE_read s hx
theorem leE0:D.le (.agg [.int .i64 0,.int .i64 0,.str [],.str [],.int .i64 0,.int .i64 0,.str [],.nil,.nil,.int .i64 0,.int .i64 0,.str [],.nil,.nil,.nil,.int .i64 0,.int .i64 0]) (encE E0):=by
 simp [encE,E0,V0,valCells,Val.kind,Val.int,Val.text,Val.items,Val.names,encVs,D.le,D.les]
theorem rdEt_no {rv:SB→Val×SB} {rd:SB→List Dlt×SB} {s:SB} (h:(eL rv rd s).2.2=true∨¬ mayE (eAll rv rd s)=true):rdEt rv rd s=(E0,((eL rv rd s).2.1,true)):=if_pos h
theorem rdEt_ok {rv:SB→Val×SB} {rd:SB→List Dlt×SB} {s:SB} (h:¬ ((eL rv rd s).2.2=true∨¬ mayE (eAll rv rd s)=true)):rdEt rv rd s=(eAll rv rd s,(eL rv rd s).2):=if_neg h
theorem fn54:FnOkC Tryz.prog 54 59 [.cell 2 30] (bodyOf Tryz.f54):=⟨Tryz.f54,Tryz.func54,by kernel_rfl,by decide,by kernel_rfl,by kernel_rfl⟩
theorem s54 (s:SB) (hx:s.1.length≤1048576):MSpec Tryz.prog 54 (fun k=>[.loc k 0]) (srcS s) (srcS (rdEt rdAll rdDsP s).2) (.d (encE (rdEt rdAll rdDsP s).1)):=by
 have l0:=eN_le s;have l1:=eC_le s;have l2:=eO_le s;have l3:=eI_le rdAll_le s;have l4:=eD_le rdAll_le s;have hok:=okE_read s hx;refine MSpec.ofC tabOk fn54 (fun _=>by simp) (fun _=>by first | exact srcS_lts _ _ | simp [SV.lts,SV.lt]) fun o nk k hkn hM=>?_;refine wr ?_;refine u_step (g_alloc th30 rfl fun o2 hb2 hk2=>?_);have hM_2:=(hk2 _ (by omega)).trans hM;refine u_nil (wr (uM ?_));refine u_step (g_mcall (s92 s 1099511627776) hM_2 rfl fun o4 hb4 hk4=>?_);have hb2_4:=(hk4 _ (by omega)).trans hb2;refine uM ?_;refine u_step (g_mcall (s106 (eT s).2) hb4 rfl fun o5 hb5 hk5=>?_);have hb2_5:=(hk5 _ (by omega)).trans hb2_4;refine uM ?_;refine u_step (g_mcall (s92 (eK s).2 255) hb5 rfl fun o6 hb6 hk6=>?_);have hb2_6:=(hk6 _ (by omega)).trans hb2_5;refine uM ?_;refine u_step (g_mcall (s92 (eS s).2 1099511627776) hb6 rfl fun o7 hb7 hk7=>?_);have hb2_7:=(hk7 _ (by omega)).trans hb2_6;refine u_step (o_bu rfl th30 rfl rfl ?_);refine u_step (g_alloc th30 rfl fun o8 hb8 hk8=>?_);have hb2_8:=(hk8 _ (by omega)).trans hb2_7;have hb7_8:=(hk8 _ (by omega)).trans hb7;refine u_step0 (g_sta rfl rfl th30 rfl hb8 (by first | (simp;done) | (simp [D.leaves,D.width,valCells];done) | decide) fun o9 hb9 hk9=>?_);have hb2_9:=(hk9 _ (by omega)).trans hb2_8;have hb7_9:=(hk9 _ (by omega)).trans hb7_8;refine u_nil (WP.leB [.d (.int .i64 (eT s).1),.d (.int .i64 (eK s).1),.d (.str []),.d (.str []),.d (.int .i64 (V0).kind),.d (.int .i64 (V0).int),.d (.str (V0).text),.d (.sl 5 (encVs (V0).items)),.d (.sl 1 ((V0).names.map .str)),.d (.int .i64 (V0).kind),.d (.int .i64 (V0).int),.d (.str (V0).text),.d (.sl 5 (encVs (V0).items)),.d (.sl 1 ((V0).names.map .str)),.d (.sl 8 (([]:List Dlt).map encD)),.d (.int .i64 (eS s).1),.d (.int .i64 (eN s).1)] hb9 ⟨D.le_refl _,D.le_refl _,D.le_refl _,D.le_refl _,D.le_refl _,D.le_refl _,D.le_refl _,rfl,rfl,D.le_refl _,D.le_refl _,D.le_refl _,rfl,rfl,rfl,D.le_refl _,D.le_refl _,trivial⟩ fun oY hBY hkY=>?_);have hFY:∀ t,t < nk→oY t=o9 t:=fun t ht=>hkY t (by omega);have hMY:=(hFY k hkn).trans hb7_9;have hZY:=(hkY nk (by omega)).trans hb2_9;have hfr0:∀ t,t < nk∧t≠k→o9 t=o t:=(fun t ht=>(hk9 t (by omega)).trans ((hk8 t (by omega)).trans ((hk7 t (by omega)).trans ((hk6 t (by omega)).trans ((hk5 t (by omega)).trans ((hk4 t (by omega)).trans ((hk2 t (by omega)))))))));refine wr (uf th30 th3 hBY ?_);refine ul th3 hBY ?_;refine u_step (o_pcall (s99 _) rfl ?_);refine u_step (o_mm (by decide) rfl ?_);refine ua (u_nil ?_);refine WP.seqI (ι:=Nat→Option AO) (fun oA=>⟨al [(0,.loc k 0),(2,.loc nk 0),(3,.loc (nk+1) 0),(4,.d (.int .i64 (if fieldsV (eK s).1 < 0 then 0 else fieldsV (eK s).1)))],oA,((nk+1)+1)⟩) (fun oA=>oA k=some (.box (srcS (eC s).2))∧oA (nk+1)=some (.box [.d (.int .i64 (eT s).1),.d (.int .i64 (eK s).1),.d (.str (eC s).1),.d (.str []),.d (.int .i64 (V0).kind),.d (.int .i64 (V0).int),.d (.str (V0).text),.d (.sl 5 (encVs (V0).items)),.d (.sl 1 ((V0).names.map .str)),.d (.int .i64 (V0).kind),.d (.int .i64 (V0).int),.d (.str (V0).text),.d (.sl 5 (encVs (V0).items)),.d (.sl 1 ((V0).names.map .str)),.d (.sl 8 (([]:List Dlt).map encD)),.d (.int .i64 (eS s).1),.d (.int .i64 (eN s).1)])∧oA nk=some (.box [.d (.int .i64 0),.d (.int .i64 0),.d (.str []),.d (.str []),.d (.int .i64 0),.d (.int .i64 0),.d (.str []),.d (.nil),.d (.nil),.d (.int .i64 0),.d (.int .i64 0),.d (.str []),.d (.nil),.d (.nil),.d (.nil),.d (.int .i64 0),.d (.int .i64 0)])∧∀ t,t < nk∧t≠k→oA t=o t) ?_ (fun oA hA=>?_)
 ·
  refine wr ?_;refine um ?_;refine ub ?_;refine ub ?_;refine u_nil ?_;refine wc (fun hc12=>?_) (fun hc12=>?_) <;> try simp only [Q0,Q1,Q2,Q3,Q4,Q5,Q6,Q7,Q8,ge_iff_le,gt_iff_lt] at hc12
  ·
   have hb1:hsB (eK s).1 1=true:=by have hgo:=hc12;simpa [hsB] using hgo
   have he:eC s=txtS (eN s).2 32:=optS_yes hb1;refine WP.reg tabOk rfl ?_;refine uM ?_;refine u_step (g_mcall (s107 (eN s).2 32 (by omega)) hMY rfl fun o13 hb13 hk13=>?_);have hBY_13:=(hk13 _ (by omega)).trans hBY;have hZY_13:=(hk13 _ (by omega)).trans hZY;refine uf th30 th9 hBY_13 ?_;refine u_step0 (g_st rfl rfl rfl th9 rfl hBY_13 (by first | (simp;done) | (simp [D.leaves,D.width];done) | decide) fun o14 hb14 hk14=>?_);have hZY_14:=(hk14 _ (by omega)).trans hZY_13;have hb13_14:=(hk14 _ (by omega)).trans hb13;refine u_nil ?_;refine ⟨o14,⟨by rw [he];exact hb13_14,by rw [he];exact hb14,hZY_14,(fun t ht=>(hk14 t (by omega)).trans ((hk13 t (by omega)).trans ((hFY t (by omega)).trans ((hfr0 t (by omega))))))⟩,Le.al ?_⟩;simp only [List.forall_mem_cons];exact ⟨rfl,rfl,rfl,rfl,by simp⟩
  ·
   have hb1:¬ hsB (eK s).1 1=true:=by have hgo:=hc12;simpa [hsB] using hgo
   have he:eC s=([],(eN s).2):=optS_no hb1;refine WP.skip ?_;refine ⟨oY,⟨by rw [he];exact hMY,by rw [he];exact hBY,hZY,(fun t ht=>(hFY t (by omega)).trans ((hfr0 t (by omega))))⟩,Le.al ?_⟩;simp only [List.forall_mem_cons];exact ⟨rfl,rfl,rfl,rfl,by simp⟩
 ·
  obtain ⟨hMoA,hBoA,hZoA,hfroA⟩:=hA;refine WP.seqI (ι:=Nat→Option AO) (fun oB=>⟨al [(0,.loc k 0),(2,.loc nk 0),(3,.loc (nk+1) 0),(4,.d (.int .i64 (if fieldsV (eK s).1 < 0 then 0 else fieldsV (eK s).1)))],oB,((nk+1)+1)⟩) (fun oB=>oB k=some (.box (srcS (eO s).2))∧oB (nk+1)=some (.box [.d (.int .i64 (eT s).1),.d (.int .i64 (eK s).1),.d (.str (eC s).1),.d (.str (eO s).1),.d (.int .i64 (V0).kind),.d (.int .i64 (V0).int),.d (.str (V0).text),.d (.sl 5 (encVs (V0).items)),.d (.sl 1 ((V0).names.map .str)),.d (.int .i64 (V0).kind),.d (.int .i64 (V0).int),.d (.str (V0).text),.d (.sl 5 (encVs (V0).items)),.d (.sl 1 ((V0).names.map .str)),.d (.sl 8 (([]:List Dlt).map encD)),.d (.int .i64 (eS s).1),.d (.int .i64 (eN s).1)])∧oB nk=some (.box [.d (.int .i64 0),.d (.int .i64 0),.d (.str []),.d (.str []),.d (.int .i64 0),.d (.int .i64 0),.d (.str []),.d (.nil),.d (.nil),.d (.int .i64 0),.d (.int .i64 0),.d (.str []),.d (.nil),.d (.nil),.d (.nil),.d (.int .i64 0),.d (.int .i64 0)])∧∀ t,t < nk∧t≠k→oB t=o t) ?_ (fun oB hA=>?_)
  ·
   refine wr ?_;refine um ?_;refine ub ?_;refine ub ?_;refine u_nil ?_;refine wc (fun hc16=>?_) (fun hc16=>?_) <;> try simp only [Q0,Q1,Q2,Q3,Q4,Q5,Q6,Q7,Q8,ge_iff_le,gt_iff_lt] at hc16
   ·
    have hb2:hsB (eK s).1 2=true:=by have hgo:=hc16;simpa [hsB] using hgo
    have he:eO s=txtS (eC s).2 32:=optS_yes hb2;refine WP.reg tabOk rfl ?_;refine uM ?_;refine u_step (g_mcall (s107 (eC s).2 32 (by omega)) hMoA rfl fun o17 hb17 hk17=>?_);have hBoA_17:=(hk17 _ (by omega)).trans hBoA;have hZoA_17:=(hk17 _ (by omega)).trans hZoA;refine uf th30 th9 hBoA_17 ?_;refine u_step0 (g_st rfl rfl rfl th9 rfl hBoA_17 (by first | (simp;done) | (simp [D.leaves,D.width];done) | decide) fun o18 hb18 hk18=>?_);have hZoA_18:=(hk18 _ (by omega)).trans hZoA_17;have hb17_18:=(hk18 _ (by omega)).trans hb17;refine u_nil ?_;refine ⟨o18,⟨by rw [he];exact hb17_18,by rw [he];exact hb18,hZoA_18,(fun t ht=>(hk18 t (by omega)).trans ((hk17 t (by omega)).trans ((hfroA t (by omega)))))⟩,Le.al ?_⟩;simp only [List.forall_mem_cons];exact ⟨rfl,rfl,rfl,rfl,by simp⟩
   ·
    have hb2:¬ hsB (eK s).1 2=true:=by have hgo:=hc16;simpa [hsB] using hgo
    have he:eO s=([],(eC s).2):=optS_no hb2;refine WP.skip ?_;refine ⟨oA,⟨by rw [he];exact hMoA,by rw [he];exact hBoA,hZoA,(fun t ht=>(hfroA t (by omega)))⟩,Le.al ?_⟩;simp only [List.forall_mem_cons];exact ⟨rfl,rfl,rfl,rfl,by simp⟩
  ·
   obtain ⟨hMoB,hBoB,hZoB,hfroB⟩:=hA;refine WP.seqI (ι:=Nat→Option AO) (fun oC=>⟨al [(0,.loc k 0),(2,.loc nk 0),(3,.loc (nk+1) 0),(4,.d (.int .i64 (if fieldsV (eK s).1 < 0 then 0 else fieldsV (eK s).1)))],oC,((nk+1)+1)⟩) (fun oC=>oC k=some (.box (srcS (eI rdAll s).2))∧oC (nk+1)=some (.box [.d (.int .i64 (eT s).1),.d (.int .i64 (eK s).1),.d (.str (eC s).1),.d (.str (eO s).1),.d (.int .i64 ((eI rdAll s).1).kind),.d (.int .i64 ((eI rdAll s).1).int),.d (.str ((eI rdAll s).1).text),.d (.sl 5 (encVs ((eI rdAll s).1).items)),.d (.sl 1 (((eI rdAll s).1).names.map .str)),.d (.int .i64 (V0).kind),.d (.int .i64 (V0).int),.d (.str (V0).text),.d (.sl 5 (encVs (V0).items)),.d (.sl 1 ((V0).names.map .str)),.d (.sl 8 (([]:List Dlt).map encD)),.d (.int .i64 (eS s).1),.d (.int .i64 (eN s).1)])∧oC nk=some (.box [.d (.int .i64 0),.d (.int .i64 0),.d (.str []),.d (.str []),.d (.int .i64 0),.d (.int .i64 0),.d (.str []),.d (.nil),.d (.nil),.d (.int .i64 0),.d (.int .i64 0),.d (.str []),.d (.nil),.d (.nil),.d (.nil),.d (.int .i64 0),.d (.int .i64 0)])∧∀ t,t < nk∧t≠k→oC t=o t) ?_ (fun oC hA=>?_)
   ·
    refine wr ?_;refine um ?_;refine ub ?_;refine ub ?_;refine u_nil ?_;refine wc (fun hc20=>?_) (fun hc20=>?_) <;> try simp only [Q0,Q1,Q2,Q3,Q4,Q5,Q6,Q7,Q8,ge_iff_le,gt_iff_lt] at hc20
    ·
     have hb4:hsB (eK s).1 4=true:=by have hgo:=hc20;simpa [hsB] using hgo
     have he:eI rdAll s=rdAll (eO s).2:=optS_yes hb4;refine WP.reg tabOk rfl ?_;refine uM ?_;refine u_step (g_mcall (s108 (eO s).2 (by omega)) hMoB rfl fun o21 hb21 hk21=>?_);have hBoB_21:=(hk21 _ (by omega)).trans hBoB;have hZoB_21:=(hk21 _ (by omega)).trans hZoB;refine uf th30 th27 hBoB_21 ?_;refine u_step0 (g_sta rfl (congrArg SV.d (encV_eq _)) th27 rfl hBoB_21 (by simp [valCells]) fun o22 hb22 hk22=>?_);have hZoB_22:=(hk22 _ (by omega)).trans hZoB_21;have hb21_22:=(hk22 _ (by omega)).trans hb21;refine u_nil ?_;refine ⟨o22,⟨by rw [he];exact hb21_22,by rw [he];exact hb22,hZoB_22,(fun t ht=>(hk22 t (by omega)).trans ((hk21 t (by omega)).trans ((hfroB t (by omega)))))⟩,Le.al ?_⟩;simp only [List.forall_mem_cons];exact ⟨rfl,rfl,rfl,rfl,by simp⟩
    ·
     have hb4:¬ hsB (eK s).1 4=true:=by have hgo:=hc20;simpa [hsB] using hgo
     have he:eI rdAll s=(V0,(eO s).2):=optS_no hb4;refine WP.skip ?_;refine ⟨oB,⟨by rw [he];exact hMoB,by rw [he];exact hBoB,hZoB,(fun t ht=>(hfroB t (by omega)))⟩,Le.al ?_⟩;simp only [List.forall_mem_cons];exact ⟨rfl,rfl,rfl,rfl,by simp⟩
   ·
    obtain ⟨hMoC,hBoC,hZoC,hfroC⟩:=hA;refine WP.seqI (ι:=Nat→Option AO) (fun oD=>⟨al [(0,.loc k 0),(2,.loc nk 0),(3,.loc (nk+1) 0),(4,.d (.int .i64 (if fieldsV (eK s).1 < 0 then 0 else fieldsV (eK s).1)))],oD,((nk+1)+1)⟩) (fun oD=>oD k=some (.box (srcS (eD rdAll s).2))∧oD (nk+1)=some (.box [.d (.int .i64 (eT s).1),.d (.int .i64 (eK s).1),.d (.str (eC s).1),.d (.str (eO s).1),.d (.int .i64 ((eI rdAll s).1).kind),.d (.int .i64 ((eI rdAll s).1).int),.d (.str ((eI rdAll s).1).text),.d (.sl 5 (encVs ((eI rdAll s).1).items)),.d (.sl 1 (((eI rdAll s).1).names.map .str)),.d (.int .i64 ((eD rdAll s).1).kind),.d (.int .i64 ((eD rdAll s).1).int),.d (.str ((eD rdAll s).1).text),.d (.sl 5 (encVs ((eD rdAll s).1).items)),.d (.sl 1 (((eD rdAll s).1).names.map .str)),.d (.sl 8 (([]:List Dlt).map encD)),.d (.int .i64 (eS s).1),.d (.int .i64 (eN s).1)])∧oD nk=some (.box [.d (.int .i64 0),.d (.int .i64 0),.d (.str []),.d (.str []),.d (.int .i64 0),.d (.int .i64 0),.d (.str []),.d (.nil),.d (.nil),.d (.int .i64 0),.d (.int .i64 0),.d (.str []),.d (.nil),.d (.nil),.d (.nil),.d (.int .i64 0),.d (.int .i64 0)])∧∀ t,t < nk∧t≠k→oD t=o t) ?_ (fun oD hA=>?_)
    ·
     refine wr ?_;refine um ?_;refine ub ?_;refine ub ?_;refine u_nil ?_;refine wc (fun hc24=>?_) (fun hc24=>?_) <;> try simp only [Q0,Q1,Q2,Q3,Q4,Q5,Q6,Q7,Q8,ge_iff_le,gt_iff_lt] at hc24
     ·
      have hb8:hsB (eK s).1 8=true:=by have hgo:=hc24;simpa [hsB] using hgo
      have he:eD rdAll s=rdAll (eI rdAll s).2:=optS_yes hb8;refine WP.reg tabOk rfl ?_;refine uM ?_;refine u_step (g_mcall (s108 (eI rdAll s).2 (by omega)) hMoC rfl fun o25 hb25 hk25=>?_);have hBoC_25:=(hk25 _ (by omega)).trans hBoC;have hZoC_25:=(hk25 _ (by omega)).trans hZoC;refine uf th30 th27 hBoC_25 ?_;refine u_step0 (g_sta rfl (congrArg SV.d (encV_eq _)) th27 rfl hBoC_25 (by simp [valCells]) fun o26 hb26 hk26=>?_);have hZoC_26:=(hk26 _ (by omega)).trans hZoC_25;have hb25_26:=(hk26 _ (by omega)).trans hb25;refine u_nil ?_;refine ⟨o26,⟨by rw [he];exact hb25_26,by rw [he];exact hb26,hZoC_26,(fun t ht=>(hk26 t (by omega)).trans ((hk25 t (by omega)).trans ((hfroC t (by omega)))))⟩,Le.al ?_⟩;simp only [List.forall_mem_cons];exact ⟨rfl,rfl,rfl,rfl,by simp⟩
     ·
      have hb8:¬ hsB (eK s).1 8=true:=by have hgo:=hc24;simpa [hsB] using hgo
      have he:eD rdAll s=(V0,(eI rdAll s).2):=optS_no hb8;refine WP.skip ?_;refine ⟨oC,⟨by rw [he];exact hMoC,by rw [he];exact hBoC,hZoC,(fun t ht=>(hfroC t (by omega)))⟩,Le.al ?_⟩;simp only [List.forall_mem_cons];exact ⟨rfl,rfl,rfl,rfl,by simp⟩
    ·
     obtain ⟨hMoD,hBoD,hZoD,hfroD⟩:=hA;refine WP.seqI (ι:=Nat→Option AO) (fun oE=>⟨al [(0,.loc k 0),(2,.loc nk 0),(3,.loc (nk+1) 0),(4,.d (.int .i64 (if fieldsV (eK s).1 < 0 then 0 else fieldsV (eK s).1)))],oE,((nk+1)+1)⟩) (fun oE=>oE k=some (.box (srcS (eL rdAll rdDsP s).2))∧oE (nk+1)=some (.box [.d (.int .i64 (eT s).1),.d (.int .i64 (eK s).1),.d (.str (eC s).1),.d (.str (eO s).1),.d (.int .i64 ((eI rdAll s).1).kind),.d (.int .i64 ((eI rdAll s).1).int),.d (.str ((eI rdAll s).1).text),.d (.sl 5 (encVs ((eI rdAll s).1).items)),.d (.sl 1 (((eI rdAll s).1).names.map .str)),.d (.int .i64 ((eD rdAll s).1).kind),.d (.int .i64 ((eD rdAll s).1).int),.d (.str ((eD rdAll s).1).text),.d (.sl 5 (encVs ((eD rdAll s).1).items)),.d (.sl 1 (((eD rdAll s).1).names.map .str)),.d (.sl 8 (((eL rdAll rdDsP s).1:List Dlt).map encD)),.d (.int .i64 (eS s).1),.d (.int .i64 (eN s).1)])∧oE nk=some (.box [.d (.int .i64 0),.d (.int .i64 0),.d (.str []),.d (.str []),.d (.int .i64 0),.d (.int .i64 0),.d (.str []),.d (.nil),.d (.nil),.d (.int .i64 0),.d (.int .i64 0),.d (.str []),.d (.nil),.d (.nil),.d (.nil),.d (.int .i64 0),.d (.int .i64 0)])∧∀ t,t < nk∧t≠k→oE t=o t) ?_ (fun oE hA=>?_)
     ·
      refine wr ?_;refine um ?_;refine ub ?_;refine ub ?_;refine u_nil ?_;refine wc (fun hc28=>?_) (fun hc28=>?_) <;> try simp only [Q0,Q1,Q2,Q3,Q4,Q5,Q6,Q7,Q8,ge_iff_le,gt_iff_lt] at hc28
      ·
       have hb16:hsB (eK s).1 16=true:=by have hgo:=hc28;simpa [hsB] using hgo
       have he:eL rdAll rdDsP s=rdDsP (eD rdAll s).2:=optS_yes hb16;refine WP.reg tabOk rfl ?_;refine uM ?_;refine u_step (g_mcall (s38 (eD rdAll s).2 (by omega)) hMoD rfl fun o29 hb29 hk29=>?_);have hBoD_29:=(hk29 _ (by omega)).trans hBoD;have hZoD_29:=(hk29 _ (by omega)).trans hZoD;refine uf th30 th28 hBoD_29 ?_;refine u_step0 (g_st rfl rfl rfl th28 rfl hBoD_29 (by first | (simp;done) | (simp [D.leaves,D.width];done) | decide) fun o30 hb30 hk30=>?_);have hZoD_30:=(hk30 _ (by omega)).trans hZoD_29;have hb29_30:=(hk30 _ (by omega)).trans hb29;refine u_nil ?_;refine ⟨o30,⟨by rw [he];exact hb29_30,by rw [he];exact hb30,hZoD_30,(fun t ht=>(hk30 t (by omega)).trans ((hk29 t (by omega)).trans ((hfroD t (by omega)))))⟩,Le.al ?_⟩;simp only [List.forall_mem_cons];exact ⟨rfl,rfl,rfl,rfl,by simp⟩
      ·
       have hb16:¬ hsB (eK s).1 16=true:=by have hgo:=hc28;simpa [hsB] using hgo
       have he:eL rdAll rdDsP s=([],(eD rdAll s).2):=optS_no hb16;refine WP.skip ?_;refine ⟨oD,⟨by rw [he];exact hMoD,by rw [he];exact hBoD,hZoD,(fun t ht=>(hfroD t (by omega)))⟩,Le.al ?_⟩;simp only [List.forall_mem_cons];exact ⟨rfl,rfl,rfl,rfl,by simp⟩
     ·
      obtain ⟨hMoE,hBoE,hZoE,hfroE⟩:=hA;refine WP.seq fun K31 hK31=>?_;refine wr (uM ?_);refine u_step (o_scall (s41 _ hMoE) rfl ?_);refine um ?_;apply gF
      ·rfl
      ·intro hg;exact pg th30 hBoE
      apply gF
      ·rfl
      ·intro hg;try simp only [hg,ct,Bt]
       refine o_pcall (s45 _ hok) rfl ⟨rfl,rfl,rfl⟩
      apply gF
      ·rfl
      ·intro hg;try simp only [hg,ct,Bt]
       exact pN
      refine uO ?_;refine u_nil ?_;refine wc (fun hc33=>?_) (fun hc33=>?_) <;> try simp only [Q0,Q1,Q2,Q3,Q4,Q5,Q6,Q7,Q8,ge_iff_le,gt_iff_lt] at hc33
      ·
       have hz:(eL rdAll rdDsP s).2.2=true∨¬ mayE (eAll rdAll rdDsP s)=true:=by have hgo:=hc33;simpa using hgo
       have hr:=rdEt_no hz;refine wr (uM ?_);refine u_step (g_mcall (s109 _) hMoE rfl fun o35 hb35 hk35=>?_);have hBoE_35:=(hk35 _ (by omega)).trans hBoE;have hZoE_35:=(hk35 _ (by omega)).trans hZoE;refine u_nil (wr ?_);refine u_step (o_bu rfl th30 rfl rfl ?_);refine u_step0 (g_sta rfl rfl th30 rfl hZoE_35 (by first | (simp;done) | (simp [D.leaves,D.width,valCells];done) | decide) fun o37 hb37 hk37=>?_);have hBoE_37:=(hk37 _ (by omega)).trans hBoE_35;have hb35_37:=(hk37 _ (by omega)).trans hb35;refine u_nil (WP.ret ?_);refine retCM_ok (resis_agg rfl th30 rfl hb37 rfl rfl rfl) ?_ (by omega) (by rw [hr];exact hb35_37) (fun t ht=>(hk37 t (by omega)).trans ((hk35 t (by omega)).trans ((hfroE t (by omega)))));rw [hr];exact leE0
      ·
       have hz:¬ ((eL rdAll rdDsP s).2.2=true∨¬ mayE (eAll rdAll rdDsP s)=true):=by have hgo:=hc33;simpa using hgo
       have hr:=rdEt_ok hz;refine WP.skip (hK31 _ (wr (ug th30 hBoE ?_)));refine u_step0 (g_sta rfl rfl th30 rfl hZoE (by first | (simp;done) | (simp [D.leaves,D.width,valCells];done) | decide) fun o39 hb39 hk39=>?_);have hMoE_39:=(hk39 _ (by omega)).trans hMoE;have hBoE_39:=(hk39 _ (by omega)).trans hBoE;refine u_nil (WP.ret ?_);refine retCM_ok (resis_agg rfl th30 rfl hb39 rfl rfl rfl) ?_ (by omega) (by rw [hr];exact hMoE_39) (fun t ht=>(hk39 t (by omega)).trans ((hfroE t (by omega))));rw [hr];exact D.le_refl _
theorem hsB_eq (k:Int):hsB k 1=hasC k∧hsB k 2=hasT k∧hsB k 4=hasI k∧hsB k 8=hasD k∧hsB k 16=hasS k:=by
 unfold hsB fieldsV hasC hasT hasI hasD hasS;by_cases h1:k=1
 ·subst h1;decide
 by_cases h2:k=2
 ·subst h2;decide
 by_cases h3:k=3
 ·subst h3;decide
 by_cases h4:k=4
 ·subst h4;decide
 by_cases h5:k=5
 ·subst h5;decide
 by_cases h6:k=6
 ·subst h6;decide
 by_cases h7:k=7
 ·subst h7;decide
 have h8:¬ (2≤k∧k≤7):=by omega
 simp only [h1,h2,h3,h4,h5,h6,h7,if_false,or_self,decide_false,Bool.or_false];refine ⟨?_,by decide,by decide,by decide,by decide⟩;have e:(decide (2≤k) && decide (k≤7))=false:=by
  cases hx:(decide (2≤k) && decide (k≤7)) with
  | false=>rfl
  | true=>exact absurd (by simpa using hx) h8
 rw [e];decide
structure EOk (e:Etr):Prop where
 k:1≤e.kind∧e.kind≤7
 t:0≤e.term∧e.term≤1099511627776
 s:0≤e.session∧e.session≤255
 n:0≤e.number∧e.number≤1099511627776
 c:(hsB e.kind 1=true→e.coll.length≤32)∧(¬ hsB e.kind 1=true→e.coll=[])
 o:(hsB e.kind 2=true→e.to.length≤32)∧(¬ hsB e.kind 2=true→e.to=[])
 i:(hsB e.kind 4=true→checkV e.id=0)∧(¬ hsB e.kind 4=true→noneV e.id=true)
 d:(hsB e.kind 8=true→checkV e.doc=0)∧(¬ hsB e.kind 8=true→noneV e.doc=true)
 l:(hsB e.kind 16=true→checkD e.deltas=0)∧(¬ hsB e.kind 16=true→e.deltas=[])
theorem mayE_ok {e:Etr} (h:mayE e=true):EOk e:=by
 obtain ⟨b1,b2,b3,b4,b5⟩:=hsB_eq e.kind;simp only [mayE,Bool.and_eq_true,decide_eq_true_eq] at h;obtain ⟨⟨⟨⟨⟨⟨hk,ht⟩,hs⟩,hn⟩,_⟩,hN⟩,hV⟩:=h;simp only [namesE,Bool.and_eq_true] at hN;simp only [valuesE,Bool.and_eq_true,Bool.or_eq_true,Bool.not_eq_true',decide_eq_true_eq] at hV;obtain ⟨⟨⟨⟨⟨v1,v2⟩,v3⟩,v4⟩,v5⟩,v6⟩:=hV;refine ⟨hk,ht,hs,hn,?_,?_,?_,?_,?_⟩
 ·rw [b1];refine ⟨fun hc=>?_,fun hc=>?_⟩
  ·have:=hN.2;rw [if_pos hc] at this;simp only [collV,decide_eq_true_eq] at this;exact this.2.1
  ·have:=hN.2;rw [if_neg hc] at this;simpa using this
 ·rw [b2];refine ⟨fun hc=>?_,fun hc=>?_⟩
  ·have:=hN.1;rw [if_pos hc] at this;simp only [Bool.and_eq_true,collV,decide_eq_true_eq] at this;exact this.1.2.1
  ·have:=hN.1;rw [if_neg hc] at this;simpa using this
 ·rw [b3];refine ⟨fun hc=>?_,fun hc=>?_⟩
  ·rcases v4 with h | h
   ·rw [hc] at h;cases h
   ·exact h
  ·exact v1.resolve_left hc
 ·rw [b4];refine ⟨fun hc=>?_,fun hc=>?_⟩
  ·rcases v5 with h | h
   ·rw [hc] at h;cases h
   ·simp only [mayDocV,decide_eq_true_eq] at h;exact h.2.1
  ·exact v2.resolve_left hc
 ·rw [b5];refine ⟨fun hc=>?_,fun hc=>?_⟩
  ·rcases v6 with h | h
   ·rw [hc] at h;cases h
   ·simp only [mayDeltasV,Bool.and_eq_true,decide_eq_true_eq] at h;exact h.1.1
  ·exact List.length_eq_zero_iff.1 (v3.resolve_left hc)
def optC (b:Bool) (s:Str):Str:=if b=true then s else []
def codE0 (e:Etr):Str:=grp (u64 e.term)++(b8 e.kind :: (grp (u64 e.session)++grp (u64 e.number)))
def codE1 (e:Etr):Str:=codE0 e++optC (hsB e.kind 1) (txtC e.coll)
def codE2 (e:Etr):Str:=codE1 e++optC (hsB e.kind 2) (txtC e.to)
def codE3 (e:Etr):Str:=codE2 e++optC (hsB e.kind 4) (codV e.id)
def codE4 (e:Etr):Str:=codE3 e++optC (hsB e.kind 8) (codV e.doc)
def codE (e:Etr):Str:=codE4 e++optC (hsB e.kind 16) (codDs e.deltas)
theorem opt_len {b:Bool} {s:Str} {n:Nat} (h:b=true→s.length≤n):(optC b s).length≤n:=by
 unfold optC;split
 ·exact h (by assumption)
 ·simp
theorem codE0_len (e:Etr):(codE0 e).length≤31:=by
 have:=grp_l e.term;have:=grp_l e.session;have:=grp_l e.number;simp only [codE0,List.length_append,List.length_cons];omega
theorem codE1_len {e:Etr} (h:EOk e):(codE1 e).length≤73:=by
 have:=codE0_len e;have:=opt_len (b:=hsB e.kind 1) (s:=txtC e.coll) (n:=42) fun hb=>by have:=h.c.1 hb;have:=textN_le e.coll;rw [txtC_len];omega
 rw [codE1,List.length_append];omega
theorem codE2_len {e:Etr} (h:EOk e):(codE2 e).length≤115:=by
 have:=codE1_len h;have:=opt_len (b:=hsB e.kind 2) (s:=txtC e.to) (n:=42) fun hb=>by have:=h.o.1 hb;have:=textN_le e.to;rw [txtC_len];omega
 rw [codE2,List.length_append];omega
theorem codE3_len {e:Etr} (h:EOk e):(codE3 e).length≤4211:=by
 have:=codE2_len h;have:=opt_len (b:=hsB e.kind 4) (s:=codV e.id) (n:=4096) fun hb=>by have:=h.i.1 hb;rw [codV_len (check_may this)];exact check_size this
 rw [codE3,List.length_append];omega
theorem codE4_len {e:Etr} (h:EOk e):(codE4 e).length≤8307:=by
 have:=codE3_len h;have:=opt_len (b:=hsB e.kind 8) (s:=codV e.doc) (n:=4096) fun hb=>by have:=h.d.1 hb;rw [codV_len (check_may this)];exact check_size this
 rw [codE4,List.length_append];omega
theorem optC_yes {b:Bool} {s a:Str} (h:b=true):bytesD a++bytesD s=bytesD (a++optC b s):=by rw [optC,if_pos h,bytesD_append]
theorem optC_no {b:Bool} {s a:Str} (h:¬ b=true):bytesD a=bytesD (a++optC b s):=by rw [optC,if_neg h,List.append_nil]
theorem codE0_eq (e:Etr):([]:List D)++bytesD (grp (u64 e.term))++[D.int .u8 (IntKind.u8.wrap e.kind)]++bytesD (grp (u64 e.session))++bytesD (grp (u64 e.number))=bytesD (codE0 e):=by
 rw [bytesD_one];simp only [List.nil_append,← bytesD_append,codE0,List.append_assoc];rfl
theorem fld_pos {k:Int} (h:1≤k∧k≤7):(if fieldsV k < 0 then 0 else fieldsV k)=fieldsV k:=by
 rw [if_neg];unfold fieldsV
 repeat' split
 all_goals first | decide | omega
theorem hsB_pos {k:Int} (h:1≤k∧k≤7) (b:Int):hsB k b=decide (bitsOf .and .i64 (fieldsV k) b≠0):=by rw [hsB,fld_pos h]
theorem fn50:FnOk Tryz.prog 50 64 [2,3] (bodyOf Tryz.f50):=⟨Tryz.f50,Tryz.func50,by kernel_rfl,by decide,by kernel_rfl,by kernel_rfl⟩
theorem s50 (e:Etr) (ok:OkE e) (hm:mayE e=true):RDSpec Tryz.prog 50 [.d (encE e)] 5 1 (bytesD (codE e)) (.int .i64 0):=by
 have hE:=mayE_ok hm;have l1:=codE1_len hE;have l2:=codE2_len hE;have l3:=codE3_len hE;have l4:=codE4_len hE;have l0:=codE0_len e;refine RDSpec.of fn50 (by simp) fun o nk=>?_;refine wr ?_;refine u_step (g_box rfl fun o2 hb2 hk2=>?_);refine ua ?_;refine ua ?_;refine u_nil ?_;refine WP.seq fun K3 hK3=>?_;refine wr ?_;refine ug th30 hb2 ?_;refine u_step (o_pcall (s45 e ok) rfl ?_);refine uN ?_;refine u_nil ?_;refine wc (fun hc5=>?_) (fun hc5=>?_) <;> try simp only [Q0,Q1,Q2,Q3,Q4,Q5,Q6,Q7,Q8,ge_iff_le,gt_iff_lt] at hc5
 ·
  have hgo:=hc5;rw [hm] at hgo;simp at hgo
  skip
 ·
  refine WP.skip (hK3 _ (wr (uf th30 th3 hb2 ?_)));refine ul th3 hb2 ?_;refine u_step (o_pcall (s99 e.kind) rfl ?_);refine ua (u_nil (WP.seq fun K7 hK7=>?_));refine WP.dr4 [.q 0 0,.q 0 0,.w 0,.q 0 1,.q 0 1,.q 0 1,.q 0 1,.w 1,.q 0 2,.q 0 2,.w 2,.q 0 3,.q 0 3,.w 3,.q 4 4] [2,7,10,13] ((nk+1)+1) (((nk+1)+1)+1) ((((nk+1)+1)+1)+1) (((((nk+1)+1)+1)+1)+1) tabOk (by kernel_rfl) rfl (by kernel_rfl) (by kernel_rfl) ?_;apply Exists.intro;apply Exists.intro;apply Exists.intro;apply Exists.intro;refine e_step rfl (o_fa_loc rfl th30 rfl rfl th3 (by decide) hb2 ⟨rfl,rfl,rfl⟩) ?_;refine e_step rfl (o_ld_loc rfl th3 rfl hb2 rfl ⟨rfl,rfl,rfl⟩) ?_;refine e_w rfl rfl (w_wcallN (s104 [] e.term hE.t.1 (by have:=hE.t.2;omega) (by simp)) rfl ⟨rfl,rfl,rfl⟩) ?_;refine e_step2 rfl rfl (o_fa_loc rfl th30 rfl rfl th3 (by decide) hb2 ⟨rfl,rfl,rfl⟩) (o_fa_loc rfl th30 rfl rfl th3 (by decide) ((upd_ne _ _ (by omega)).trans hb2) ⟨rfl,rfl,rfl⟩) ?_;refine e_step2 rfl rfl (o_ld_loc rfl th3 rfl hb2 rfl ⟨rfl,rfl,rfl⟩) (o_ld_loc rfl th3 rfl ((upd_ne _ _ (by omega)).trans hb2) rfl ⟨rfl,rfl,rfl⟩) ?_;refine e_step2 rfl rfl (o_cv_int rfl th3 th5 rfl ⟨rfl,rfl,rfl⟩) (o_cv_int rfl th3 th5 rfl ⟨rfl,rfl,rfl⟩) ?_;refine e_step2 rfl rfl (o_bs rfl th52 rfl th5 rfl rfl (by decide) rfl (by decide) (by decide) ⟨rfl,rfl,rfl⟩) (o_bs rfl th52 rfl th5 rfl rfl (by decide) rfl (by decide) (by decide) ⟨rfl,rfl,rfl⟩) ?_;refine e_w rfl rfl (w_ap rfl rfl th52 rfl th5 rfl rfl (by decide) rfl (upd_same _ _ _) (by have:=grp_l e.term;simp [bytesD_length];omega) (by have:=grp_l e.term;simp [bytesD_length];omega) ⟨rfl,rfl,rfl⟩) ?_;refine e_step3 rfl rfl rfl (o_fa_loc rfl th30 rfl rfl th3 (by decide) hb2 ⟨rfl,rfl,rfl⟩) (o_fa_loc rfl th30 rfl rfl th3 (by decide) ((upd_ne _ _ (by omega)).trans hb2) ⟨rfl,rfl,rfl⟩) (o_fa_loc rfl th30 rfl rfl th3 (by decide) (((upd_ne _ _ (by omega)).trans (upd_ne _ _ (by omega))).trans ((upd_ne _ _ (by omega)).trans hb2)) ⟨rfl,rfl,rfl⟩) ?_;refine e_step3 rfl rfl rfl (o_ld_loc rfl th3 rfl hb2 rfl ⟨rfl,rfl,rfl⟩) (o_ld_loc rfl th3 rfl ((upd_ne _ _ (by omega)).trans hb2) rfl ⟨rfl,rfl,rfl⟩) (o_ld_loc rfl th3 rfl (((upd_ne _ _ (by omega)).trans (upd_ne _ _ (by omega))).trans ((upd_ne _ _ (by omega)).trans hb2)) rfl ⟨rfl,rfl,rfl⟩) ?_;refine e_w rfl rfl (w_wcallR (s104 ([]++bytesD (grp (u64 e.term))++[D.int .u8 (IntKind.u8.wrap e.kind)]) e.session hE.s.1 (by have:=hE.s.2;omega) (by have:=grp_l e.term;have:=grp_l e.session;simp [bytesD_length];omega)) (upd_same _ _ _) rfl ⟨rfl,rfl,rfl⟩) ?_;refine e_step4 rfl rfl rfl rfl (o_fa_loc rfl th30 rfl rfl th3 (by decide) hb2 ⟨rfl,rfl,rfl⟩) (o_fa_loc rfl th30 rfl rfl th3 (by decide) ((upd_ne _ _ (by omega)).trans hb2) ⟨rfl,rfl,rfl⟩) (o_fa_loc rfl th30 rfl rfl th3 (by decide) (((upd_ne _ _ (by omega)).trans (upd_ne _ _ (by omega))).trans ((upd_ne _ _ (by omega)).trans hb2)) ⟨rfl,rfl,rfl⟩) (o_fa_loc rfl th30 rfl rfl th3 (by decide) (((upd_ne _ _ (by omega)).trans (upd_ne _ _ (by omega))).trans (((upd_ne _ _ (by omega)).trans (upd_ne _ _ (by omega))).trans ((upd_ne _ _ (by omega)).trans hb2))) ⟨rfl,rfl,rfl⟩) ?_;refine e_step4 rfl rfl rfl rfl (o_ld_loc rfl th3 rfl hb2 rfl ⟨rfl,rfl,rfl⟩) (o_ld_loc rfl th3 rfl ((upd_ne _ _ (by omega)).trans hb2) rfl ⟨rfl,rfl,rfl⟩) (o_ld_loc rfl th3 rfl (((upd_ne _ _ (by omega)).trans (upd_ne _ _ (by omega))).trans ((upd_ne _ _ (by omega)).trans hb2)) rfl ⟨rfl,rfl,rfl⟩) (o_ld_loc rfl th3 rfl (((upd_ne _ _ (by omega)).trans (upd_ne _ _ (by omega))).trans (((upd_ne _ _ (by omega)).trans (upd_ne _ _ (by omega))).trans ((upd_ne _ _ (by omega)).trans hb2))) rfl ⟨rfl,rfl,rfl⟩) ?_;refine e_w rfl rfl (w_wcallR (s104 (([]++bytesD (grp (u64 e.term))++[D.int .u8 (IntKind.u8.wrap e.kind)])++bytesD (grp (u64 e.session))) e.number hE.n.1 (by have:=hE.n.2;omega) (by have:=grp_l e.term;have:=grp_l e.session;simp [bytesD_length];omega)) (upd_same _ _ _) rfl ⟨rfl,rfl,rfl⟩) ?_;refine e_step rfl (o_assignV (v:=.row _) rfl ⟨rfl,rfl,rfl⟩) ?_;refine e_nil rfl fun o12 ho12=>?_;have hbb2_12:=(ho12 _).trans (((upd_ne _ _ (by omega)).trans (upd_ne _ _ (by omega))).trans (((upd_ne _ _ (by omega)).trans (upd_ne _ _ (by omega))).trans (((upd_ne _ _ (by omega)).trans (upd_ne _ _ (by omega))).trans ((upd_ne _ _ (by omega)).trans hb2))));have hbr11_12:=(ho12 _).trans (upd_same _ _ _);have hk12:∀ t,t < nk→o12 t=o2 t:=fun t ht=>(ho12 t).trans (((upd_ne _ _ (by omega)).trans (upd_ne _ _ (by omega))).trans (((upd_ne _ _ (by omega)).trans (upd_ne _ _ (by omega))).trans (((upd_ne _ _ (by omega)).trans (upd_ne _ _ (by omega))).trans (upd_ne _ _ (by omega)))));refine hK7 _ ?_;refine WP.seqI (ι:=Nat×(Nat→Option AO)×Nat) (fun ⟨p1,oA,m1⟩=>⟨al [(1,.loc nk 0),(4,.d (.int .i64 (fieldsV e.kind))),(5,.row p1)],oA,m1⟩) (fun ⟨p1,oA,m1⟩=>nk < p1∧p1 < m1∧oA nk=some (.box (([.int .i64 e.term,.int .i64 e.kind,.str e.coll,.str e.to,.int .i64 (e.id).kind,.int .i64 (e.id).int,.str (e.id).text,.sl 5 (encVs (e.id).items),.sl 1 ((e.id).names.map .str),.int .i64 (e.doc).kind,.int .i64 (e.doc).int,.str (e.doc).text,.sl 5 (encVs (e.doc).items),.sl 1 ((e.doc).names.map .str),.sl 8 (e.deltas.map encD),.int .i64 e.session,.int .i64 e.number]:List D).map .d))∧oA p1=some (.row 5 1 (bytesD (codE1 e)))∧∀ t,t < nk→oA t=o t) ?_ (fun ⟨p1,oA,m1⟩ hA=>?_)
  ·
   have hR0:=(hbr11_12).trans (congrArg (fun z=>some (AO.row 5 1 z)) (codE0_eq e));have hB0:=hbb2_12;refine wr ?_;refine um ?_;refine ub ?_;refine ub ?_;refine u_nil ?_;refine wc (fun hc14=>?_) (fun hc14=>?_) <;> try simp only [Q0,Q1,Q2,Q3,Q4,Q5,Q6,Q7,Q8,ge_iff_le,gt_iff_lt] at hc14
   ·
    have hb1:hsB e.kind 1=true:=by rw [hsB_pos hE.k];have hgo:=hc14;simpa using hgo
    replace hc14:=hb1;refine WP.reg tabOk rfl ?_;refine uR (uf th30 th9 hB0 ?_);refine ul th9 hB0 ?_;refine u_step (o_rcall (s86 e.coll (by have:=hE.c.1 hb1;omega)) rfl fun q15 o15 nk15 hqa15 hqb15 hb15 hk15=>?_);have hB0_15:=(hk15 _ (by omega)).trans hB0;have hR0_15:=(hk15 _ (by omega)).trans hR0;refine u_step (g_apr rfl rfl th52 rfl th5 rfl rfl (by decide) hR0_15 hb15 (by have:=hE.c.1 hb1;have:=grp_l e.coll.length;simp only [bytesD_length,List.length_append];omega) (by have:=hE.c.1 hb1;have:=grp_l e.coll.length;simp only [bytesD_length,List.length_append];omega) fun o16 hb16 hk16=>?_);have hB0_16:=(hk16 _ (by omega) (by omega)).trans hB0_15;have hb15_16:=(hk16 _ (by omega) (by omega)).trans hb15;refine uS (u_nil ?_)
    first | refine ⟨⟨_,o16,(nk15+1)⟩,⟨by omega,by omega,hB0_16,(hb16).trans (congrArg (fun z=>some (AO.row 5 1 z)) (optC_yes hc14)),(fun t ht=>(hk16 t (by omega) (by omega)).trans ((hk15 t (by omega)).trans ((hk12 t (by omega)).trans ((hk2 t (by omega))))))⟩,Le.al ?_⟩ | refine ⟨⟨_,o16,(nk15+1)⟩,⟨by omega,by omega,hB0_16,(hb16).trans (congrArg (fun z=>some (AO.row 5 1 z)) (optC_no hc14)),(fun t ht=>(hk16 t (by omega) (by omega)).trans ((hk15 t (by omega)).trans ((hk12 t (by omega)).trans ((hk2 t (by omega))))))⟩,Le.al ?_⟩
    simp only [List.forall_mem_cons];exact ⟨rfl,rfl,rfl,by simp⟩
   ·
    have hb1:¬ hsB e.kind 1=true:=by rw [hsB_pos hE.k];have hgo:=hc14;simpa using hgo
    replace hc14:=hb1;refine WP.skip ?_
    first | refine ⟨⟨_,o12,(((((nk+1)+1)+1)+1)+1)⟩,⟨by omega,by omega,hB0,(hR0).trans (congrArg (fun z=>some (AO.row 5 1 z)) (optC_yes hc14)),(fun t ht=>(hk12 t (by omega)).trans ((hk2 t (by omega))))⟩,Le.al ?_⟩ | refine ⟨⟨_,o12,(((((nk+1)+1)+1)+1)+1)⟩,⟨by omega,by omega,hB0,(hR0).trans (congrArg (fun z=>some (AO.row 5 1 z)) (optC_no hc14)),(fun t ht=>(hk12 t (by omega)).trans ((hk2 t (by omega))))⟩,Le.al ?_⟩
    simp only [List.forall_mem_cons];exact ⟨rfl,rfl,rfl,by simp⟩
  ·
   obtain ⟨hn1,hm1,hB1,hR1,hF1⟩:=hA;refine WP.seqI (ι:=Nat×(Nat→Option AO)×Nat) (fun ⟨p2,oB,m2⟩=>⟨al [(1,.loc nk 0),(4,.d (.int .i64 (fieldsV e.kind))),(5,.row p2)],oB,m2⟩) (fun ⟨p2,oB,m2⟩=>nk < p2∧p2 < m2∧oB nk=some (.box (([.int .i64 e.term,.int .i64 e.kind,.str e.coll,.str e.to,.int .i64 (e.id).kind,.int .i64 (e.id).int,.str (e.id).text,.sl 5 (encVs (e.id).items),.sl 1 ((e.id).names.map .str),.int .i64 (e.doc).kind,.int .i64 (e.doc).int,.str (e.doc).text,.sl 5 (encVs (e.doc).items),.sl 1 ((e.doc).names.map .str),.sl 8 (e.deltas.map encD),.int .i64 e.session,.int .i64 e.number]:List D).map .d))∧oB p2=some (.row 5 1 (bytesD (codE2 e)))∧∀ t,t < nk→oB t=o t) ?_ (fun ⟨p2,oB,m2⟩ hA=>?_)
   ·
    refine wr ?_;refine um ?_;refine ub ?_;refine ub ?_;refine u_nil ?_;refine wc (fun hc18=>?_) (fun hc18=>?_) <;> try simp only [Q0,Q1,Q2,Q3,Q4,Q5,Q6,Q7,Q8,ge_iff_le,gt_iff_lt] at hc18
    ·
     have hb2:hsB e.kind 2=true:=by rw [hsB_pos hE.k];have hgo:=hc18;simpa using hgo
     replace hc18:=hb2;refine WP.reg tabOk rfl ?_;refine uR (uf th30 th9 hB1 ?_);refine ul th9 hB1 ?_;refine u_step (o_rcall (s86 e.to (by have:=hE.o.1 hb2;omega)) rfl fun q19 o19 nk19 hqa19 hqb19 hb19 hk19=>?_);have hB1_19:=(hk19 _ (by omega)).trans hB1;have hR1_19:=(hk19 _ (by omega)).trans hR1;refine u_step (g_apr rfl rfl th52 rfl th5 rfl rfl (by decide) hR1_19 hb19 (by have:=hE.o.1 hb2;have:=grp_l e.to.length;simp only [bytesD_length,List.length_append];omega) (by have:=hE.o.1 hb2;have:=grp_l e.to.length;simp only [bytesD_length,List.length_append];omega) fun o20 hb20 hk20=>?_);have hB1_20:=(hk20 _ (by omega) (by omega)).trans hB1_19;have hb19_20:=(hk20 _ (by omega) (by omega)).trans hb19;refine uS (u_nil ?_)
     first | refine ⟨⟨_,o20,(nk19+1)⟩,⟨by omega,by omega,hB1_20,(hb20).trans (congrArg (fun z=>some (AO.row 5 1 z)) (optC_yes hc18)),(fun t ht=>(hk20 t (by omega) (by omega)).trans ((hk19 t (by omega)).trans ((hF1 t (by omega)))))⟩,Le.al ?_⟩ | refine ⟨⟨_,o20,(nk19+1)⟩,⟨by omega,by omega,hB1_20,(hb20).trans (congrArg (fun z=>some (AO.row 5 1 z)) (optC_no hc18)),(fun t ht=>(hk20 t (by omega) (by omega)).trans ((hk19 t (by omega)).trans ((hF1 t (by omega)))))⟩,Le.al ?_⟩
     simp only [List.forall_mem_cons];exact ⟨rfl,rfl,rfl,by simp⟩
    ·
     have hb2:¬ hsB e.kind 2=true:=by rw [hsB_pos hE.k];have hgo:=hc18;simpa using hgo
     replace hc18:=hb2;refine WP.skip ?_
     first | refine ⟨⟨_,oA,m1⟩,⟨by omega,by omega,hB1,(hR1).trans (congrArg (fun z=>some (AO.row 5 1 z)) (optC_yes hc18)),(fun t ht=>(hF1 t (by omega)))⟩,Le.al ?_⟩ | refine ⟨⟨_,oA,m1⟩,⟨by omega,by omega,hB1,(hR1).trans (congrArg (fun z=>some (AO.row 5 1 z)) (optC_no hc18)),(fun t ht=>(hF1 t (by omega)))⟩,Le.al ?_⟩
     simp only [List.forall_mem_cons];exact ⟨rfl,rfl,rfl,by simp⟩
   ·
    obtain ⟨hn2,hm2,hB2,hR2,hF2⟩:=hA;refine WP.seqI (ι:=Nat×(Nat→Option AO)×Nat) (fun ⟨p3,oC,m3⟩=>⟨al [(1,.loc nk 0),(4,.d (.int .i64 (fieldsV e.kind))),(5,.row p3)],oC,m3⟩) (fun ⟨p3,oC,m3⟩=>nk < p3∧p3 < m3∧oC nk=some (.box (([.int .i64 e.term,.int .i64 e.kind,.str e.coll,.str e.to,.int .i64 (e.id).kind,.int .i64 (e.id).int,.str (e.id).text,.sl 5 (encVs (e.id).items),.sl 1 ((e.id).names.map .str),.int .i64 (e.doc).kind,.int .i64 (e.doc).int,.str (e.doc).text,.sl 5 (encVs (e.doc).items),.sl 1 ((e.doc).names.map .str),.sl 8 (e.deltas.map encD),.int .i64 e.session,.int .i64 e.number]:List D).map .d))∧oC p3=some (.row 5 1 (bytesD (codE3 e)))∧∀ t,t < nk→oC t=o t) ?_ (fun ⟨p3,oC,m3⟩ hA=>?_)
    ·
     refine wr ?_;refine um ?_;refine ub ?_;refine ub ?_;refine u_nil ?_;refine wc (fun hc22=>?_) (fun hc22=>?_) <;> try simp only [Q0,Q1,Q2,Q3,Q4,Q5,Q6,Q7,Q8,ge_iff_le,gt_iff_lt] at hc22
     ·
      have hb4:hsB e.kind 4=true:=by rw [hsB_pos hE.k];have hgo:=hc22;simpa using hgo
      replace hc22:=hb4;refine WP.reg tabOk rfl ?_;refine uR ?_;refine uf th30 th27 hB2 ?_;refine ug th27 hB2 ?_;refine u_step (g_rcallF (us:=[.row _,.d _]) hR2 (rv (v:=e.id) (s87 e.id (bytesD (codE2 e)) (hE.i.1 hb4) ok.ri ok.si (by have:=ok.si;rw [bytesD_length];omega))) rfl (by simp only [List.map_cons,List.map_nil,SV.frz,if_true] <;> rfl) fun o23 hb23 hk23=>?_);have hB2_23:=(hk23 _ (by omega) (by omega)).trans hB2;refine uS ?_;refine u_nil ?_
      first | refine ⟨⟨_,o23,(m2+1)⟩,⟨by omega,by omega,hB2_23,(hb23).trans (congrArg (fun z=>some (AO.row 5 1 z)) (optC_yes hc22)),(fun t ht=>(hk23 t (by omega) (by omega)).trans ((hF2 t (by omega))))⟩,Le.al ?_⟩ | refine ⟨⟨_,o23,(m2+1)⟩,⟨by omega,by omega,hB2_23,(hb23).trans (congrArg (fun z=>some (AO.row 5 1 z)) (optC_no hc22)),(fun t ht=>(hk23 t (by omega) (by omega)).trans ((hF2 t (by omega))))⟩,Le.al ?_⟩
      simp only [List.forall_mem_cons];exact ⟨rfl,rfl,rfl,by simp⟩
     ·
      have hb4:¬ hsB e.kind 4=true:=by rw [hsB_pos hE.k];have hgo:=hc22;simpa using hgo
      replace hc22:=hb4;refine WP.skip ?_
      first | refine ⟨⟨_,oB,m2⟩,⟨by omega,by omega,hB2,(hR2).trans (congrArg (fun z=>some (AO.row 5 1 z)) (optC_yes hc22)),(fun t ht=>(hF2 t (by omega)))⟩,Le.al ?_⟩ | refine ⟨⟨_,oB,m2⟩,⟨by omega,by omega,hB2,(hR2).trans (congrArg (fun z=>some (AO.row 5 1 z)) (optC_no hc22)),(fun t ht=>(hF2 t (by omega)))⟩,Le.al ?_⟩
      simp only [List.forall_mem_cons];exact ⟨rfl,rfl,rfl,by simp⟩
    ·
     obtain ⟨hn3,hm3,hB3,hR3,hF3⟩:=hA;refine WP.seqI (ι:=Nat×(Nat→Option AO)×Nat) (fun ⟨p4,oD,m4⟩=>⟨al [(1,.loc nk 0),(4,.d (.int .i64 (fieldsV e.kind))),(5,.row p4)],oD,m4⟩) (fun ⟨p4,oD,m4⟩=>nk < p4∧p4 < m4∧oD nk=some (.box (([.int .i64 e.term,.int .i64 e.kind,.str e.coll,.str e.to,.int .i64 (e.id).kind,.int .i64 (e.id).int,.str (e.id).text,.sl 5 (encVs (e.id).items),.sl 1 ((e.id).names.map .str),.int .i64 (e.doc).kind,.int .i64 (e.doc).int,.str (e.doc).text,.sl 5 (encVs (e.doc).items),.sl 1 ((e.doc).names.map .str),.sl 8 (e.deltas.map encD),.int .i64 e.session,.int .i64 e.number]:List D).map .d))∧oD p4=some (.row 5 1 (bytesD (codE4 e)))∧∀ t,t < nk→oD t=o t) ?_ (fun ⟨p4,oD,m4⟩ hA=>?_)
     ·
      refine wr ?_;refine um ?_;refine ub ?_;refine ub ?_;refine u_nil ?_;refine wc (fun hc25=>?_) (fun hc25=>?_) <;> try simp only [Q0,Q1,Q2,Q3,Q4,Q5,Q6,Q7,Q8,ge_iff_le,gt_iff_lt] at hc25
      ·
       have hb8:hsB e.kind 8=true:=by rw [hsB_pos hE.k];have hgo:=hc25;simpa using hgo
       replace hc25:=hb8;refine WP.reg tabOk rfl ?_;refine uR ?_;refine uf th30 th27 hB3 ?_;refine ug th27 hB3 ?_;refine u_step (g_rcallF (us:=[.row _,.d _]) hR3 (rv (v:=e.doc) (s87 e.doc (bytesD (codE3 e)) (hE.d.1 hb8) ok.rd ok.sd (by have:=ok.sd;rw [bytesD_length];omega))) rfl (by simp only [List.map_cons,List.map_nil,SV.frz,if_true] <;> rfl) fun o26 hb26 hk26=>?_);have hB3_26:=(hk26 _ (by omega) (by omega)).trans hB3;refine uS ?_;refine u_nil ?_
       first | refine ⟨⟨_,o26,(m3+1)⟩,⟨by omega,by omega,hB3_26,(hb26).trans (congrArg (fun z=>some (AO.row 5 1 z)) (optC_yes hc25)),(fun t ht=>(hk26 t (by omega) (by omega)).trans ((hF3 t (by omega))))⟩,Le.al ?_⟩ | refine ⟨⟨_,o26,(m3+1)⟩,⟨by omega,by omega,hB3_26,(hb26).trans (congrArg (fun z=>some (AO.row 5 1 z)) (optC_no hc25)),(fun t ht=>(hk26 t (by omega) (by omega)).trans ((hF3 t (by omega))))⟩,Le.al ?_⟩
       simp only [List.forall_mem_cons];exact ⟨rfl,rfl,rfl,by simp⟩
      ·
       have hb8:¬ hsB e.kind 8=true:=by rw [hsB_pos hE.k];have hgo:=hc25;simpa using hgo
       replace hc25:=hb8;refine WP.skip ?_
       first | refine ⟨⟨_,oC,m3⟩,⟨by omega,by omega,hB3,(hR3).trans (congrArg (fun z=>some (AO.row 5 1 z)) (optC_yes hc25)),(fun t ht=>(hF3 t (by omega)))⟩,Le.al ?_⟩ | refine ⟨⟨_,oC,m3⟩,⟨by omega,by omega,hB3,(hR3).trans (congrArg (fun z=>some (AO.row 5 1 z)) (optC_no hc25)),(fun t ht=>(hF3 t (by omega)))⟩,Le.al ?_⟩
       simp only [List.forall_mem_cons];exact ⟨rfl,rfl,rfl,by simp⟩
     ·
      obtain ⟨hn4,hm4,hB4,hR4,hF4⟩:=hA;refine WP.seqI (ι:=Nat×(Nat→Option AO)×Nat) (fun ⟨p5,oE,m5⟩=>⟨al [(1,.loc nk 0),(4,.d (.int .i64 (fieldsV e.kind))),(5,.row p5)],oE,m5⟩) (fun ⟨p5,oE,m5⟩=>nk < p5∧p5 < m5∧oE nk=some (.box (([.int .i64 e.term,.int .i64 e.kind,.str e.coll,.str e.to,.int .i64 (e.id).kind,.int .i64 (e.id).int,.str (e.id).text,.sl 5 (encVs (e.id).items),.sl 1 ((e.id).names.map .str),.int .i64 (e.doc).kind,.int .i64 (e.doc).int,.str (e.doc).text,.sl 5 (encVs (e.doc).items),.sl 1 ((e.doc).names.map .str),.sl 8 (e.deltas.map encD),.int .i64 e.session,.int .i64 e.number]:List D).map .d))∧oE p5=some (.row 5 1 (bytesD (codE e)))∧∀ t,t < nk→oE t=o t) ?_ (fun ⟨p5,oE,m5⟩ hA=>?_)
      ·
       refine wr ?_;refine um ?_;refine ub ?_;refine ub ?_;refine u_nil ?_;refine wc (fun hc28=>?_) (fun hc28=>?_) <;> try simp only [Q0,Q1,Q2,Q3,Q4,Q5,Q6,Q7,Q8,ge_iff_le,gt_iff_lt] at hc28
       ·
        have hb16:hsB e.kind 16=true:=by rw [hsB_pos hE.k];have hgo:=hc28;simpa using hgo
        replace hc28:=hb16;refine WP.reg tabOk rfl ?_;refine uR ?_;refine uf th30 th28 hB4 ?_;refine ul th28 hB4 ?_;refine u_step (g_rcallF (us:=[.row _,.d _]) hR4 (s34 e.deltas (bytesD (codE4 e)) (hE.l.1 hb16) (ok.ds (checkD_len (hE.l.1 hb16))) (by rw [bytesD_length];omega)) rfl (by simp only [List.map_cons,List.map_nil,SV.frz,if_true] <;> rfl) fun o29 hb29 hk29=>?_);have hB4_29:=(hk29 _ (by omega) (by omega)).trans hB4;refine uS ?_;refine u_nil ?_
        first | refine ⟨⟨_,o29,(m4+1)⟩,⟨by omega,by omega,hB4_29,(hb29).trans (congrArg (fun z=>some (AO.row 5 1 z)) (optC_yes hc28)),(fun t ht=>(hk29 t (by omega) (by omega)).trans ((hF4 t (by omega))))⟩,Le.al ?_⟩ | refine ⟨⟨_,o29,(m4+1)⟩,⟨by omega,by omega,hB4_29,(hb29).trans (congrArg (fun z=>some (AO.row 5 1 z)) (optC_no hc28)),(fun t ht=>(hk29 t (by omega) (by omega)).trans ((hF4 t (by omega))))⟩,Le.al ?_⟩
        simp only [List.forall_mem_cons];exact ⟨rfl,rfl,rfl,by simp⟩
       ·
        have hb16:¬ hsB e.kind 16=true:=by rw [hsB_pos hE.k];have hgo:=hc28;simpa using hgo
        replace hc28:=hb16;refine WP.skip ?_
        first | refine ⟨⟨_,oD,m4⟩,⟨by omega,by omega,hB4,(hR4).trans (congrArg (fun z=>some (AO.row 5 1 z)) (optC_yes hc28)),(fun t ht=>(hF4 t (by omega)))⟩,Le.al ?_⟩ | refine ⟨⟨_,oD,m4⟩,⟨by omega,by omega,hB4,(hR4).trans (congrArg (fun z=>some (AO.row 5 1 z)) (optC_no hc28)),(fun t ht=>(hF4 t (by omega)))⟩,Le.al ?_⟩
        simp only [List.forall_mem_cons];exact ⟨rfl,rfl,rfl,by simp⟩
      ·
       obtain ⟨hn5,hm5,hB5,hR5,hF5⟩:=hA;refine wr (uR (uS (ua (u_nil (WP.ret ?_)))));refine rrowd_ok rfl ?_ (by omega) (by omega) ?_ (fun t ht=>(hF5 t (by omega)))
       ·rfl
       exact hR5
theorem hasTup (k:Int):PSpec Tryz.prog 64 [.d (.int .i64 k)] (.tup [.d (.bool (hsB k 1)),.d (.bool (hsB k 2)),.d (.bool (hsB k 4)),.d (.bool (hsB k 8)),.d (.bool (hsB k 16))]):=by
 have h:=s64 k;rw [hasL_eq] at h;exact h
theorem fn55:FnOkC Tryz.prog 55 64 [.cell 2 30] (bodyOf Tryz.f55):=⟨Tryz.f55,Tryz.func55,by kernel_rfl,by decide,by kernel_rfl,by kernel_rfl⟩
theorem s55 (s:SB) (hx:s.1.length≤1048576):MSpec Tryz.prog 55 (fun k=>[.loc k 0]) (srcS s) (srcS (rdEt rdAllR rdDsR s).2) (.d (encE (rdEt rdAllR rdDsR s).1)):=by
 have l0:=eN_le s;have l1:=eC_le s;have l2:=eO_le s;have l3:=eI_le rdAllR_le s;have l4:=eD_le rdAllR_le s;have hok:=okE_readR s hx;refine MSpec.ofC tabOk fn55 (fun _=>by simp) (fun _=>by first | exact srcS_lts _ _ | simp [SV.lts,SV.lt]) fun o nk k hkn hM=>?_;refine wr ?_;refine u_step (g_alloc th30 rfl fun o2 hb2 hk2=>?_);have hM_2:=(hk2 _ (by omega)).trans hM;refine u_nil (wr (uM ?_));refine u_step (g_mcall (s94 s 1099511627776) hM_2 rfl fun o4 hb4 hk4=>?_);have hb2_4:=(hk4 _ (by omega)).trans hb2;refine u_step (o_bu rfl th30 rfl rfl ?_);refine u_step (g_alloc th30 rfl fun o5 hb5 hk5=>?_);have hb2_5:=(hk5 _ (by omega)).trans hb2_4;have hb4_5:=(hk5 _ (by omega)).trans hb4;refine u_step0 (g_sta rfl rfl th30 rfl hb5 (by first | (simp;done) | (simp [D.leaves,D.width,valCells];done) | decide) fun o6 hb6 hk6=>?_);have hb2_6:=(hk6 _ (by omega)).trans hb2_5;have hb4_6:=(hk6 _ (by omega)).trans hb4_5;refine u_nil (wr (uM ?_));refine u_step (g_mcall (s95 (eT s).2) hb4_6 rfl fun o8 hb8 hk8=>?_);have hb2_8:=(hk8 _ (by omega)).trans hb2_6;have hb6_8:=(hk8 _ (by omega)).trans hb6;refine uf th30 th3 hb6_8 ?_;refine u_step0 (g_st rfl rfl rfl th3 rfl hb6_8 (by first | (simp;done) | (simp [D.leaves,D.width];done) | decide) fun o9 hb9 hk9=>?_);have hb2_9:=(hk9 _ (by omega)).trans hb2_8;have hb8_9:=(hk9 _ (by omega)).trans hb8;refine u_nil (wr (uM ?_));refine u_step (g_mcall (s94 (eK s).2 255) hb8_9 rfl fun o11 hb11 hk11=>?_);have hb2_11:=(hk11 _ (by omega)).trans hb2_9;have hb9_11:=(hk11 _ (by omega)).trans hb9;refine uf th30 th3 hb9_11 ?_;refine u_step0 (g_st rfl rfl rfl th3 rfl hb9_11 (by first | (simp;done) | (simp [D.leaves,D.width];done) | decide) fun o12 hb12 hk12=>?_);have hb2_12:=(hk12 _ (by omega)).trans hb2_11;have hb11_12:=(hk12 _ (by omega)).trans hb11;refine u_nil (wr (uM ?_));refine u_step (g_mcall (s94 (eS s).2 1099511627776) hb11_12 rfl fun o14 hb14 hk14=>?_);have hb2_14:=(hk14 _ (by omega)).trans hb2_12;have hb12_14:=(hk14 _ (by omega)).trans hb12;refine uf th30 th3 hb12_14 ?_;refine u_step0 (g_st rfl rfl rfl th3 rfl hb12_14 (by first | (simp;done) | (simp [D.leaves,D.width];done) | decide) fun o15 hb15 hk15=>?_);have hb2_15:=(hk15 _ (by omega)).trans hb2_14;have hb14_15:=(hk15 _ (by omega)).trans hb14;refine u_nil (WP.leB [.d (.int .i64 (eT s).1),.d (.int .i64 (eK s).1),.d (.str []),.d (.str []),.d (.int .i64 (V0).kind),.d (.int .i64 (V0).int),.d (.str (V0).text),.d (.sl 5 (encVs (V0).items)),.d (.sl 1 ((V0).names.map .str)),.d (.int .i64 (V0).kind),.d (.int .i64 (V0).int),.d (.str (V0).text),.d (.sl 5 (encVs (V0).items)),.d (.sl 1 ((V0).names.map .str)),.d (.sl 8 (([]:List Dlt).map encD)),.d (.int .i64 (eS s).1),.d (.int .i64 (eN s).1)] hb15 ⟨D.le_refl _,D.le_refl _,D.le_refl _,D.le_refl _,D.le_refl _,D.le_refl _,D.le_refl _,rfl,rfl,D.le_refl _,D.le_refl _,D.le_refl _,rfl,rfl,rfl,D.le_refl _,D.le_refl _,trivial⟩ fun oY hBY hkY=>?_);have hFY:∀ t,t < nk→oY t=o15 t:=fun t ht=>hkY t (by omega);have hMY:=(hFY k hkn).trans hb14_15;have hZY:=(hkY nk (by omega)).trans hb2_15;have hfr0:∀ t,t < nk∧t≠k→o15 t=o t:=(fun t ht=>(hk15 t (by omega)).trans ((hk14 t (by omega)).trans ((hk12 t (by omega)).trans ((hk11 t (by omega)).trans ((hk9 t (by omega)).trans ((hk8 t (by omega)).trans ((hk6 t (by omega)).trans ((hk5 t (by omega)).trans ((hk4 t (by omega)).trans ((hk2 t (by omega))))))))))));refine wr (uf th30 th3 hBY ?_);refine ul th3 hBY ?_;refine u_step (o_pcall (hasTup (eK s).1) rfl ?_);refine u_step (o_moveV (v:=.tup _) rfl ?_);refine ue (ue ?_);refine ue (ue (ue (ua (ua (ua (ua (ua (u_nil ?_))))))));refine WP.seqI (ι:=Nat→Option AO) (fun oA=>⟨al [(0,.loc k 0),(2,.loc nk 0),(3,.loc (nk+1) 0),(4,.d (.bool (hsB (eK s).1 1))),(5,.d (.bool (hsB (eK s).1 2))),(6,.d (.bool (hsB (eK s).1 4))),(7,.d (.bool (hsB (eK s).1 8))),(8,.d (.bool (hsB (eK s).1 16)))],oA,((nk+1)+1)⟩) (fun oA=>oA k=some (.box (srcS (eC s).2))∧oA (nk+1)=some (.box [.d (.int .i64 (eT s).1),.d (.int .i64 (eK s).1),.d (.str (eC s).1),.d (.str []),.d (.int .i64 (V0).kind),.d (.int .i64 (V0).int),.d (.str (V0).text),.d (.sl 5 (encVs (V0).items)),.d (.sl 1 ((V0).names.map .str)),.d (.int .i64 (V0).kind),.d (.int .i64 (V0).int),.d (.str (V0).text),.d (.sl 5 (encVs (V0).items)),.d (.sl 1 ((V0).names.map .str)),.d (.sl 8 (([]:List Dlt).map encD)),.d (.int .i64 (eS s).1),.d (.int .i64 (eN s).1)])∧oA nk=some (.box [.d (.int .i64 0),.d (.int .i64 0),.d (.str []),.d (.str []),.d (.int .i64 0),.d (.int .i64 0),.d (.str []),.d (.nil),.d (.nil),.d (.int .i64 0),.d (.int .i64 0),.d (.str []),.d (.nil),.d (.nil),.d (.nil),.d (.int .i64 0),.d (.int .i64 0)])∧∀ t,t < nk∧t≠k→oA t=o t) ?_ (fun oA hA=>?_)
 ·
  refine wr ?_;refine um ?_;refine u_nil ?_;refine wc (fun hc18=>?_) (fun hc18=>?_) <;> try simp only [Q0,Q1,Q2,Q3,Q4,Q5,Q6,Q7,Q8,ge_iff_le,gt_iff_lt] at hc18
  ·
   have hb1:hsB (eK s).1 1=true:=by simpa using hc18
   have he:eC s=txtS (eN s).2 32:=optS_yes hb1;refine WP.reg tabOk rfl ?_;refine uM ?_;refine u_step (g_mcall (s96 (eN s).2 32 (by omega)) hMY rfl fun o19 hb19 hk19=>?_);have hBY_19:=(hk19 _ (by omega)).trans hBY;have hZY_19:=(hk19 _ (by omega)).trans hZY;refine uf th30 th9 hBY_19 ?_;refine u_step0 (g_st rfl rfl rfl th9 rfl hBY_19 (by first | (simp;done) | (simp [D.leaves,D.width];done) | decide) fun o20 hb20 hk20=>?_);have hZY_20:=(hk20 _ (by omega)).trans hZY_19;have hb19_20:=(hk20 _ (by omega)).trans hb19;refine u_nil ?_;refine ⟨o20,⟨by rw [he];exact hb19_20,by rw [he];exact hb20,hZY_20,(fun t ht=>(hk20 t (by omega)).trans ((hk19 t (by omega)).trans ((hFY t (by omega)).trans ((hfr0 t (by omega))))))⟩,Le.al ?_⟩;simp only [List.forall_mem_cons];exact ⟨rfl,rfl,rfl,rfl,rfl,rfl,rfl,rfl,by simp⟩
  ·
   have hb1:¬ hsB (eK s).1 1=true:=by simpa using hc18
   have he:eC s=([],(eN s).2):=optS_no hb1;refine WP.skip ?_;refine ⟨oY,⟨by rw [he];exact hMY,by rw [he];exact hBY,hZY,(fun t ht=>(hFY t (by omega)).trans ((hfr0 t (by omega))))⟩,Le.al ?_⟩;simp only [List.forall_mem_cons];exact ⟨rfl,rfl,rfl,rfl,rfl,rfl,rfl,rfl,by simp⟩
 ·
  obtain ⟨hMoA,hBoA,hZoA,hfroA⟩:=hA;refine WP.seqI (ι:=Nat→Option AO) (fun oB=>⟨al [(0,.loc k 0),(2,.loc nk 0),(3,.loc (nk+1) 0),(4,.d (.bool (hsB (eK s).1 1))),(5,.d (.bool (hsB (eK s).1 2))),(6,.d (.bool (hsB (eK s).1 4))),(7,.d (.bool (hsB (eK s).1 8))),(8,.d (.bool (hsB (eK s).1 16)))],oB,((nk+1)+1)⟩) (fun oB=>oB k=some (.box (srcS (eO s).2))∧oB (nk+1)=some (.box [.d (.int .i64 (eT s).1),.d (.int .i64 (eK s).1),.d (.str (eC s).1),.d (.str (eO s).1),.d (.int .i64 (V0).kind),.d (.int .i64 (V0).int),.d (.str (V0).text),.d (.sl 5 (encVs (V0).items)),.d (.sl 1 ((V0).names.map .str)),.d (.int .i64 (V0).kind),.d (.int .i64 (V0).int),.d (.str (V0).text),.d (.sl 5 (encVs (V0).items)),.d (.sl 1 ((V0).names.map .str)),.d (.sl 8 (([]:List Dlt).map encD)),.d (.int .i64 (eS s).1),.d (.int .i64 (eN s).1)])∧oB nk=some (.box [.d (.int .i64 0),.d (.int .i64 0),.d (.str []),.d (.str []),.d (.int .i64 0),.d (.int .i64 0),.d (.str []),.d (.nil),.d (.nil),.d (.int .i64 0),.d (.int .i64 0),.d (.str []),.d (.nil),.d (.nil),.d (.nil),.d (.int .i64 0),.d (.int .i64 0)])∧∀ t,t < nk∧t≠k→oB t=o t) ?_ (fun oB hA=>?_)
  ·
   refine wr ?_;refine um ?_;refine u_nil ?_;refine wc (fun hc22=>?_) (fun hc22=>?_) <;> try simp only [Q0,Q1,Q2,Q3,Q4,Q5,Q6,Q7,Q8,ge_iff_le,gt_iff_lt] at hc22
   ·
    have hb2:hsB (eK s).1 2=true:=by simpa using hc22
    have he:eO s=txtS (eC s).2 32:=optS_yes hb2;refine WP.reg tabOk rfl ?_;refine uM ?_;refine u_step (g_mcall (s96 (eC s).2 32 (by omega)) hMoA rfl fun o23 hb23 hk23=>?_);have hBoA_23:=(hk23 _ (by omega)).trans hBoA;have hZoA_23:=(hk23 _ (by omega)).trans hZoA;refine uf th30 th9 hBoA_23 ?_;refine u_step0 (g_st rfl rfl rfl th9 rfl hBoA_23 (by first | (simp;done) | (simp [D.leaves,D.width];done) | decide) fun o24 hb24 hk24=>?_);have hZoA_24:=(hk24 _ (by omega)).trans hZoA_23;have hb23_24:=(hk24 _ (by omega)).trans hb23;refine u_nil ?_;refine ⟨o24,⟨by rw [he];exact hb23_24,by rw [he];exact hb24,hZoA_24,(fun t ht=>(hk24 t (by omega)).trans ((hk23 t (by omega)).trans ((hfroA t (by omega)))))⟩,Le.al ?_⟩;simp only [List.forall_mem_cons];exact ⟨rfl,rfl,rfl,rfl,rfl,rfl,rfl,rfl,by simp⟩
   ·
    have hb2:¬ hsB (eK s).1 2=true:=by simpa using hc22
    have he:eO s=([],(eC s).2):=optS_no hb2;refine WP.skip ?_;refine ⟨oA,⟨by rw [he];exact hMoA,by rw [he];exact hBoA,hZoA,(fun t ht=>(hfroA t (by omega)))⟩,Le.al ?_⟩;simp only [List.forall_mem_cons];exact ⟨rfl,rfl,rfl,rfl,rfl,rfl,rfl,rfl,by simp⟩
  ·
   obtain ⟨hMoB,hBoB,hZoB,hfroB⟩:=hA;refine WP.seqI (ι:=Nat→Option AO) (fun oC=>⟨al [(0,.loc k 0),(2,.loc nk 0),(3,.loc (nk+1) 0),(4,.d (.bool (hsB (eK s).1 1))),(5,.d (.bool (hsB (eK s).1 2))),(6,.d (.bool (hsB (eK s).1 4))),(7,.d (.bool (hsB (eK s).1 8))),(8,.d (.bool (hsB (eK s).1 16)))],oC,((nk+1)+1)⟩) (fun oC=>oC k=some (.box (srcS (eI rdAllR s).2))∧oC (nk+1)=some (.box [.d (.int .i64 (eT s).1),.d (.int .i64 (eK s).1),.d (.str (eC s).1),.d (.str (eO s).1),.d (.int .i64 ((eI rdAllR s).1).kind),.d (.int .i64 ((eI rdAllR s).1).int),.d (.str ((eI rdAllR s).1).text),.d (.sl 5 (encVs ((eI rdAllR s).1).items)),.d (.sl 1 (((eI rdAllR s).1).names.map .str)),.d (.int .i64 (V0).kind),.d (.int .i64 (V0).int),.d (.str (V0).text),.d (.sl 5 (encVs (V0).items)),.d (.sl 1 ((V0).names.map .str)),.d (.sl 8 (([]:List Dlt).map encD)),.d (.int .i64 (eS s).1),.d (.int .i64 (eN s).1)])∧oC nk=some (.box [.d (.int .i64 0),.d (.int .i64 0),.d (.str []),.d (.str []),.d (.int .i64 0),.d (.int .i64 0),.d (.str []),.d (.nil),.d (.nil),.d (.int .i64 0),.d (.int .i64 0),.d (.str []),.d (.nil),.d (.nil),.d (.nil),.d (.int .i64 0),.d (.int .i64 0)])∧∀ t,t < nk∧t≠k→oC t=o t) ?_ (fun oC hA=>?_)
   ·
    refine wr ?_;refine um ?_;refine u_nil ?_;refine wc (fun hc26=>?_) (fun hc26=>?_) <;> try simp only [Q0,Q1,Q2,Q3,Q4,Q5,Q6,Q7,Q8,ge_iff_le,gt_iff_lt] at hc26
    ·
     have hb4:hsB (eK s).1 4=true:=by simpa using hc26
     have he:eI rdAllR s=rdAllR (eO s).2:=optS_yes hb4;refine WP.reg tabOk rfl ?_;refine uM ?_;refine u_step (g_mcall (s97 (eO s).2 (by omega)) hMoB rfl fun o27 hb27 hk27=>?_);have hBoB_27:=(hk27 _ (by omega)).trans hBoB;have hZoB_27:=(hk27 _ (by omega)).trans hZoB;refine uf th30 th27 hBoB_27 ?_;refine u_step0 (g_sta rfl (congrArg SV.d (encV_eq _)) th27 rfl hBoB_27 (by simp [valCells]) fun o28 hb28 hk28=>?_);have hZoB_28:=(hk28 _ (by omega)).trans hZoB_27;have hb27_28:=(hk28 _ (by omega)).trans hb27;refine u_nil ?_;refine ⟨o28,⟨by rw [he];exact hb27_28,by rw [he];exact hb28,hZoB_28,(fun t ht=>(hk28 t (by omega)).trans ((hk27 t (by omega)).trans ((hfroB t (by omega)))))⟩,Le.al ?_⟩;simp only [List.forall_mem_cons];exact ⟨rfl,rfl,rfl,rfl,rfl,rfl,rfl,rfl,by simp⟩
    ·
     have hb4:¬ hsB (eK s).1 4=true:=by simpa using hc26
     have he:eI rdAllR s=(V0,(eO s).2):=optS_no hb4;refine WP.skip ?_;refine ⟨oB,⟨by rw [he];exact hMoB,by rw [he];exact hBoB,hZoB,(fun t ht=>(hfroB t (by omega)))⟩,Le.al ?_⟩;simp only [List.forall_mem_cons];exact ⟨rfl,rfl,rfl,rfl,rfl,rfl,rfl,rfl,by simp⟩
   ·
    obtain ⟨hMoC,hBoC,hZoC,hfroC⟩:=hA;refine WP.seqI (ι:=Nat→Option AO) (fun oD=>⟨al [(0,.loc k 0),(2,.loc nk 0),(3,.loc (nk+1) 0),(4,.d (.bool (hsB (eK s).1 1))),(5,.d (.bool (hsB (eK s).1 2))),(6,.d (.bool (hsB (eK s).1 4))),(7,.d (.bool (hsB (eK s).1 8))),(8,.d (.bool (hsB (eK s).1 16)))],oD,((nk+1)+1)⟩) (fun oD=>oD k=some (.box (srcS (eD rdAllR s).2))∧oD (nk+1)=some (.box [.d (.int .i64 (eT s).1),.d (.int .i64 (eK s).1),.d (.str (eC s).1),.d (.str (eO s).1),.d (.int .i64 ((eI rdAllR s).1).kind),.d (.int .i64 ((eI rdAllR s).1).int),.d (.str ((eI rdAllR s).1).text),.d (.sl 5 (encVs ((eI rdAllR s).1).items)),.d (.sl 1 (((eI rdAllR s).1).names.map .str)),.d (.int .i64 ((eD rdAllR s).1).kind),.d (.int .i64 ((eD rdAllR s).1).int),.d (.str ((eD rdAllR s).1).text),.d (.sl 5 (encVs ((eD rdAllR s).1).items)),.d (.sl 1 (((eD rdAllR s).1).names.map .str)),.d (.sl 8 (([]:List Dlt).map encD)),.d (.int .i64 (eS s).1),.d (.int .i64 (eN s).1)])∧oD nk=some (.box [.d (.int .i64 0),.d (.int .i64 0),.d (.str []),.d (.str []),.d (.int .i64 0),.d (.int .i64 0),.d (.str []),.d (.nil),.d (.nil),.d (.int .i64 0),.d (.int .i64 0),.d (.str []),.d (.nil),.d (.nil),.d (.nil),.d (.int .i64 0),.d (.int .i64 0)])∧∀ t,t < nk∧t≠k→oD t=o t) ?_ (fun oD hA=>?_)
    ·
     refine wr ?_;refine um ?_;refine u_nil ?_;refine wc (fun hc30=>?_) (fun hc30=>?_) <;> try simp only [Q0,Q1,Q2,Q3,Q4,Q5,Q6,Q7,Q8,ge_iff_le,gt_iff_lt] at hc30
     ·
      have hb8:hsB (eK s).1 8=true:=by simpa using hc30
      have he:eD rdAllR s=rdAllR (eI rdAllR s).2:=optS_yes hb8;refine WP.reg tabOk rfl ?_;refine uM ?_;refine u_step (g_mcall (s97 (eI rdAllR s).2 (by omega)) hMoC rfl fun o31 hb31 hk31=>?_);have hBoC_31:=(hk31 _ (by omega)).trans hBoC;have hZoC_31:=(hk31 _ (by omega)).trans hZoC;refine uf th30 th27 hBoC_31 ?_;refine u_step0 (g_sta rfl (congrArg SV.d (encV_eq _)) th27 rfl hBoC_31 (by simp [valCells]) fun o32 hb32 hk32=>?_);have hZoC_32:=(hk32 _ (by omega)).trans hZoC_31;have hb31_32:=(hk32 _ (by omega)).trans hb31;refine u_nil ?_;refine ⟨o32,⟨by rw [he];exact hb31_32,by rw [he];exact hb32,hZoC_32,(fun t ht=>(hk32 t (by omega)).trans ((hk31 t (by omega)).trans ((hfroC t (by omega)))))⟩,Le.al ?_⟩;simp only [List.forall_mem_cons];exact ⟨rfl,rfl,rfl,rfl,rfl,rfl,rfl,rfl,by simp⟩
     ·
      have hb8:¬ hsB (eK s).1 8=true:=by simpa using hc30
      have he:eD rdAllR s=(V0,(eI rdAllR s).2):=optS_no hb8;refine WP.skip ?_;refine ⟨oC,⟨by rw [he];exact hMoC,by rw [he];exact hBoC,hZoC,(fun t ht=>(hfroC t (by omega)))⟩,Le.al ?_⟩;simp only [List.forall_mem_cons];exact ⟨rfl,rfl,rfl,rfl,rfl,rfl,rfl,rfl,by simp⟩
    ·
     obtain ⟨hMoD,hBoD,hZoD,hfroD⟩:=hA;refine WP.seqI (ι:=Nat→Option AO) (fun oE=>⟨al [(0,.loc k 0),(2,.loc nk 0),(3,.loc (nk+1) 0),(4,.d (.bool (hsB (eK s).1 1))),(5,.d (.bool (hsB (eK s).1 2))),(6,.d (.bool (hsB (eK s).1 4))),(7,.d (.bool (hsB (eK s).1 8))),(8,.d (.bool (hsB (eK s).1 16)))],oE,((nk+1)+1)⟩) (fun oE=>oE k=some (.box (srcS (eL rdAllR rdDsR s).2))∧oE (nk+1)=some (.box [.d (.int .i64 (eT s).1),.d (.int .i64 (eK s).1),.d (.str (eC s).1),.d (.str (eO s).1),.d (.int .i64 ((eI rdAllR s).1).kind),.d (.int .i64 ((eI rdAllR s).1).int),.d (.str ((eI rdAllR s).1).text),.d (.sl 5 (encVs ((eI rdAllR s).1).items)),.d (.sl 1 (((eI rdAllR s).1).names.map .str)),.d (.int .i64 ((eD rdAllR s).1).kind),.d (.int .i64 ((eD rdAllR s).1).int),.d (.str ((eD rdAllR s).1).text),.d (.sl 5 (encVs ((eD rdAllR s).1).items)),.d (.sl 1 (((eD rdAllR s).1).names.map .str)),.d (.sl 8 (((eL rdAllR rdDsR s).1:List Dlt).map encD)),.d (.int .i64 (eS s).1),.d (.int .i64 (eN s).1)])∧oE nk=some (.box [.d (.int .i64 0),.d (.int .i64 0),.d (.str []),.d (.str []),.d (.int .i64 0),.d (.int .i64 0),.d (.str []),.d (.nil),.d (.nil),.d (.int .i64 0),.d (.int .i64 0),.d (.str []),.d (.nil),.d (.nil),.d (.nil),.d (.int .i64 0),.d (.int .i64 0)])∧∀ t,t < nk∧t≠k→oE t=o t) ?_ (fun oE hA=>?_)
     ·
      refine wr ?_;refine um ?_;refine u_nil ?_;refine wc (fun hc34=>?_) (fun hc34=>?_) <;> try simp only [Q0,Q1,Q2,Q3,Q4,Q5,Q6,Q7,Q8,ge_iff_le,gt_iff_lt] at hc34
      ·
       have hb16:hsB (eK s).1 16=true:=by simpa using hc34
       have he:eL rdAllR rdDsR s=rdDsR (eD rdAllR s).2:=optS_yes hb16;refine WP.reg tabOk rfl ?_;refine uM ?_;refine u_step (g_mcall (s40 (eD rdAllR s).2 (by omega)) hMoD rfl fun o35 hb35 hk35=>?_);have hBoD_35:=(hk35 _ (by omega)).trans hBoD;have hZoD_35:=(hk35 _ (by omega)).trans hZoD;refine uf th30 th28 hBoD_35 ?_;refine u_step0 (g_st rfl rfl rfl th28 rfl hBoD_35 (by first | (simp;done) | (simp [D.leaves,D.width];done) | decide) fun o36 hb36 hk36=>?_);have hZoD_36:=(hk36 _ (by omega)).trans hZoD_35;have hb35_36:=(hk36 _ (by omega)).trans hb35;refine u_nil ?_;refine ⟨o36,⟨by rw [he];exact hb35_36,by rw [he];exact hb36,hZoD_36,(fun t ht=>(hk36 t (by omega)).trans ((hk35 t (by omega)).trans ((hfroD t (by omega)))))⟩,Le.al ?_⟩;simp only [List.forall_mem_cons];exact ⟨rfl,rfl,rfl,rfl,rfl,rfl,rfl,rfl,by simp⟩
      ·
       have hb16:¬ hsB (eK s).1 16=true:=by simpa using hc34
       have he:eL rdAllR rdDsR s=([],(eD rdAllR s).2):=optS_no hb16;refine WP.skip ?_;refine ⟨oD,⟨by rw [he];exact hMoD,by rw [he];exact hBoD,hZoD,(fun t ht=>(hfroD t (by omega)))⟩,Le.al ?_⟩;simp only [List.forall_mem_cons];exact ⟨rfl,rfl,rfl,rfl,rfl,rfl,rfl,rfl,by simp⟩
     ·
      obtain ⟨hMoE,hBoE,hZoE,hfroE⟩:=hA;refine WP.seq fun K37 hK37=>?_;refine wr (uM ?_);refine u_step (o_nc rfl hMoE ?_);refine uf th63 th4 hMoE ?_;refine ul th4 hMoE ?_;refine um ?_;apply gF
      ·rfl
      ·intro hg;exact pg th30 hBoE
      apply gF
      ·rfl
      ·intro hg;try simp only [hg,ct,Bt]
       refine o_pcall (s24 _ hok) rfl ⟨rfl,rfl,rfl⟩
      apply gF
      ·rfl
      ·intro hg;try simp only [hg,ct,Bt]
       exact pN
      refine uO ?_;refine u_nil ?_;refine wc (fun hc39=>?_) (fun hc39=>?_) <;> try simp only [Q0,Q1,Q2,Q3,Q4,Q5,Q6,Q7,Q8,ge_iff_le,gt_iff_lt] at hc39
      ·
       have hz:(eL rdAllR rdDsR s).2.2=true∨¬ mayE (eAll rdAllR rdDsR s)=true:=by have hgo:=hc39;simpa using hgo
       have hr:=rdEt_no hz;refine wr (uM ?_);refine u_step (o_nc rfl hMoE ?_);refine uf th63 th4 hMoE ?_;refine u_step0 (g_st rfl rfl rfl th4 rfl hMoE (by first | (simp;done) | (simp [D.leaves,D.width];done) | decide) fun o41 hb41 hk41=>?_);have hBoE_41:=(hk41 _ (by omega)).trans hBoE;have hZoE_41:=(hk41 _ (by omega)).trans hZoE;refine u_nil (wr ?_);refine u_step (o_bu rfl th30 rfl rfl ?_);refine u_step0 (g_sta rfl rfl th30 rfl hZoE_41 (by first | (simp;done) | (simp [D.leaves,D.width,valCells];done) | decide) fun o43 hb43 hk43=>?_);have hBoE_43:=(hk43 _ (by omega)).trans hBoE_41;have hb41_43:=(hk43 _ (by omega)).trans hb41;refine u_nil (WP.ret ?_);refine retCM_ok (resis_agg rfl th30 rfl hb43 rfl rfl rfl) ?_ (by omega) (by rw [hr];exact hb41_43) (fun t ht=>(hk43 t (by omega)).trans ((hk41 t (by omega)).trans ((hfroE t (by omega)))));rw [hr];exact leE0
      ·
       have hz:¬ ((eL rdAllR rdDsR s).2.2=true∨¬ mayE (eAll rdAllR rdDsR s)=true):=by have hgo:=hc39;simpa using hgo
       have hr:=rdEt_ok hz;refine WP.skip (hK37 _ (wr (ug th30 hBoE ?_)));refine u_step0 (g_sta rfl rfl th30 rfl hZoE (by first | (simp;done) | (simp [D.leaves,D.width,valCells];done) | decide) fun o45 hb45 hk45=>?_);have hMoE_45:=(hk45 _ (by omega)).trans hMoE;have hBoE_45:=(hk45 _ (by omega)).trans hBoE;refine u_nil (WP.ret ?_);refine retCM_ok (resis_agg rfl th30 rfl hb45 rfl rfl rfl) ?_ (by omega) (by rw [hr];exact hMoE_45) (fun t ht=>(hk45 t (by omega)).trans ((hfroE t (by omega))));rw [hr];exact D.le_refl _
theorem fn51:FnOkC Tryz.prog 51 15 [.cell 2 30,.tmp 3] (bodyOf Tryz.f51):=⟨Tryz.f51,Tryz.func51,by kernel_rfl,by decide,by kernel_rfl,by kernel_rfl⟩
theorem s51y (b:List UInt8) (hx:b.length≤1048576) (hd:doneS (rdEt rdAll rdDsP (b,false)).2=0):PSpec Tryz.prog 51 [.d (.sl 1 (b.map encB))] (.tup (([encE (rdEt rdAll rdDsP (b,false)).1,.int .i64 0]).map .d)):=by
 refine PSpec.of2C tabOk fn51 (by simp) fun o nk=>?_;refine wr ?_;refine u_step (g_alloc th30 rfl fun o2 hb2 hk2=>?_);refine ua ?_;refine u_nil ?_;refine wr ?_;refine um ?_;refine u_step (g_ncall (s36 b) rfl fun o4 hb4 hk4=>?_);have hb2_4:=(hk4 _ (by omega)).trans hb2;refine uT ?_;refine u_nil ?_;refine wr ?_;refine uM ?_;refine u_step (g_mcall (s54 (b,false) hx) hb4 rfl fun o6 hb6 hk6=>?_);have hb2_6:=(hk6 _ (by omega)).trans hb2_4;refine u_step (g_alloc th30 rfl fun o7 hb7 hk7=>?_);have hb2_7:=(hk7 _ (by omega)).trans hb2_6;have hb6_7:=(hk7 _ (by omega)).trans hb6;refine u_step0 (g_sta rfl rfl th30 rfl hb7 (by first | (simp;done) | (simp [D.leaves,D.width,valCells];done) | decide) fun o8 hb8 hk8=>?_);have hb2_8:=(hk8 _ (by omega)).trans hb2_7;have hb6_8:=(hk8 _ (by omega)).trans hb6_7;refine u_nil ?_;refine WP.seq fun K9 hK9=>?_;refine wr ?_;refine uM ?_;refine u_step (o_scall (s39 _ hb6_8) rfl ?_);refine ub ?_;refine u_nil ?_;refine wc (fun hc11=>?_) (fun hc11=>?_) <;> try simp only [Q0,Q1,Q2,Q3,Q4,Q5,Q6,Q7,Q8,ge_iff_le,gt_iff_lt] at hc11
 ·
  rw [hd] at hc11;simp at hc11
 ·
  refine WP.skip (hK9 _ (wr (ug th30 hb8 ?_)));refine u_step0 (g_sta rfl rfl th30 rfl hb2_8 (by first | (simp;done) | (simp [D.leaves,D.width,valCells];done) | decide) fun o13 hb13 hk13=>?_);have hb6_13:=(hk13 _ (by omega)).trans hb6_8;have hb8_13:=(hk13 _ (by omega)).trans hb8;refine ua (u_nil (WP.ret ?_));refine retC_ok (resis_agg rfl th30 rfl hb13 rfl rfl rfl) rfl ?_ ?_ (by omega) (fun t ht=>(hk13 t (by omega)).trans ((hk8 t (by omega)).trans ((hk7 t (by omega)).trans ((hk6 t (by omega)).trans ((hk4 t (by omega)).trans ((hk2 t (by omega))))))))
  ·rfl
  ·rfl
theorem s51n (b:List UInt8) (hx:b.length≤1048576) (hd:¬ doneS (rdEt rdAll rdDsP (b,false)).2=0):PSpec Tryz.prog 51 [.d (.sl 1 (b.map encB))] (.tup (([.agg [.int .i64 0,.int .i64 0,.str [],.str [],.int .i64 0,.int .i64 0,.str [],.nil,.nil,.int .i64 0,.int .i64 0,.str [],.nil,.nil,.nil,.int .i64 0,.int .i64 0],.int .i64 10]).map .d)):=by
 refine PSpec.of2C tabOk fn51 (by simp) fun o nk=>?_;refine wr ?_;refine u_step (g_alloc th30 rfl fun o2 hb2 hk2=>?_);refine ua ?_;refine u_nil ?_;refine wr ?_;refine um ?_;refine u_step (g_ncall (s36 b) rfl fun o4 hb4 hk4=>?_);have hb2_4:=(hk4 _ (by omega)).trans hb2;refine uT ?_;refine u_nil ?_;refine wr ?_;refine uM ?_;refine u_step (g_mcall (s54 (b,false) hx) hb4 rfl fun o6 hb6 hk6=>?_);have hb2_6:=(hk6 _ (by omega)).trans hb2_4;refine u_step (g_alloc th30 rfl fun o7 hb7 hk7=>?_);have hb2_7:=(hk7 _ (by omega)).trans hb2_6;have hb6_7:=(hk7 _ (by omega)).trans hb6;refine u_step0 (g_sta rfl rfl th30 rfl hb7 (by first | (simp;done) | (simp [D.leaves,D.width,valCells];done) | decide) fun o8 hb8 hk8=>?_);have hb2_8:=(hk8 _ (by omega)).trans hb2_7;have hb6_8:=(hk8 _ (by omega)).trans hb6_7;refine u_nil ?_;refine WP.seq fun K9 hK9=>?_;refine wr ?_;refine uM ?_;refine u_step (o_scall (s39 _ hb6_8) rfl ?_);refine ub ?_;refine u_nil ?_;refine wc (fun hc11=>?_) (fun hc11=>?_) <;> try simp only [Q0,Q1,Q2,Q3,Q4,Q5,Q6,Q7,Q8,ge_iff_le,gt_iff_lt] at hc11
 ·
  refine wr ?_;refine u_step (o_bu rfl th30 rfl rfl ?_);refine u_step0 (g_sta rfl rfl th30 rfl hb2_8 (by first | (simp;done) | (simp [D.leaves,D.width,valCells];done) | decide) fun o13 hb13 hk13=>?_);have hb6_13:=(hk13 _ (by omega)).trans hb6_8;have hb8_13:=(hk13 _ (by omega)).trans hb8;refine ua (u_nil (WP.ret ?_));refine retC_ok (resis_agg rfl th30 rfl hb13 rfl rfl rfl) rfl ?_ ?_ (by omega) (fun t ht=>(hk13 t (by omega)).trans ((hk8 t (by omega)).trans ((hk7 t (by omega)).trans ((hk6 t (by omega)).trans ((hk4 t (by omega)).trans ((hk2 t (by omega))))))))
  ·rfl
  ·rfl
 ·
  simp at hc11;exact absurd hc11 hd
theorem fn53:FnOkC Tryz.prog 53 16 [.cell 2 30,.tmp 3] (bodyOf Tryz.f53):=⟨Tryz.f53,Tryz.func53,by kernel_rfl,by decide,by kernel_rfl,by kernel_rfl⟩
theorem s53y (b:List UInt8) (hx:b.length≤1048576) (hd:doneS (rdEt rdAllR rdDsR (b,false)).2=0):PSpec Tryz.prog 53 [.d (.sl 1 (b.map encB))] (.tup (([encE (rdEt rdAllR rdDsR (b,false)).1,.int .i64 0]).map .d)):=by
 refine PSpec.of2C tabOk fn53 (by simp) fun o nk=>?_;refine wr ?_;refine u_step (g_alloc th30 rfl fun o2 hb2 hk2=>?_);refine ua ?_;refine u_nil ?_;refine wr ?_;refine um ?_;refine u_step (o_bu rfl th63 rfl rfl ?_);refine u_step (g_box rfl fun o4 hb4 hk4=>?_);have hb2_4:=(hk4 _ (by omega)).trans hb2;refine uT ?_;refine u_nil ?_;refine wr ?_;refine uM ?_;refine u_step (g_mcall (s55 (b,false) hx) hb4 rfl fun o6 hb6 hk6=>?_);have hb2_6:=(hk6 _ (by omega)).trans hb2_4;refine u_step (g_alloc th30 rfl fun o7 hb7 hk7=>?_);have hb2_7:=(hk7 _ (by omega)).trans hb2_6;have hb6_7:=(hk7 _ (by omega)).trans hb6;refine u_step0 (g_sta rfl rfl th30 rfl hb7 (by first | (simp;done) | (simp [D.leaves,D.width,valCells];done) | decide) fun o8 hb8 hk8=>?_);have hb2_8:=(hk8 _ (by omega)).trans hb2_7;have hb6_8:=(hk8 _ (by omega)).trans hb6_7;refine u_nil ?_;refine WP.seq fun K9 hK9=>?_;refine wr ?_;refine uM ?_;refine u_step (o_scall (s105 _ hb6_8) rfl ?_);refine ub ?_;refine u_nil ?_;refine wc (fun hc11=>?_) (fun hc11=>?_) <;> try simp only [Q0,Q1,Q2,Q3,Q4,Q5,Q6,Q7,Q8,ge_iff_le,gt_iff_lt] at hc11
 ·
  rw [hd] at hc11;simp at hc11
 ·
  refine WP.skip (hK9 _ (wr (ug th30 hb8 ?_)));refine u_step0 (g_sta rfl rfl th30 rfl hb2_8 (by first | (simp;done) | (simp [D.leaves,D.width,valCells];done) | decide) fun o13 hb13 hk13=>?_);have hb6_13:=(hk13 _ (by omega)).trans hb6_8;have hb8_13:=(hk13 _ (by omega)).trans hb8;refine ua (u_nil (WP.ret ?_));refine retC_ok (resis_agg rfl th30 rfl hb13 rfl rfl rfl) rfl ?_ ?_ (by omega) (fun t ht=>(hk13 t (by omega)).trans ((hk8 t (by omega)).trans ((hk7 t (by omega)).trans ((hk6 t (by omega)).trans ((hk4 t (by omega)).trans ((hk2 t (by omega))))))))
  ·rfl
  ·rfl
theorem s53n (b:List UInt8) (hx:b.length≤1048576) (hd:¬ doneS (rdEt rdAllR rdDsR (b,false)).2=0):PSpec Tryz.prog 53 [.d (.sl 1 (b.map encB))] (.tup (([.agg [.int .i64 0,.int .i64 0,.str [],.str [],.int .i64 0,.int .i64 0,.str [],.nil,.nil,.int .i64 0,.int .i64 0,.str [],.nil,.nil,.nil,.int .i64 0,.int .i64 0],.int .i64 10]).map .d)):=by
 refine PSpec.of2C tabOk fn53 (by simp) fun o nk=>?_;refine wr ?_;refine u_step (g_alloc th30 rfl fun o2 hb2 hk2=>?_);refine ua ?_;refine u_nil ?_;refine wr ?_;refine um ?_;refine u_step (o_bu rfl th63 rfl rfl ?_);refine u_step (g_box rfl fun o4 hb4 hk4=>?_);have hb2_4:=(hk4 _ (by omega)).trans hb2;refine uT ?_;refine u_nil ?_;refine wr ?_;refine uM ?_;refine u_step (g_mcall (s55 (b,false) hx) hb4 rfl fun o6 hb6 hk6=>?_);have hb2_6:=(hk6 _ (by omega)).trans hb2_4;refine u_step (g_alloc th30 rfl fun o7 hb7 hk7=>?_);have hb2_7:=(hk7 _ (by omega)).trans hb2_6;have hb6_7:=(hk7 _ (by omega)).trans hb6;refine u_step0 (g_sta rfl rfl th30 rfl hb7 (by first | (simp;done) | (simp [D.leaves,D.width,valCells];done) | decide) fun o8 hb8 hk8=>?_);have hb2_8:=(hk8 _ (by omega)).trans hb2_7;have hb6_8:=(hk8 _ (by omega)).trans hb6_7;refine u_nil ?_;refine WP.seq fun K9 hK9=>?_;refine wr ?_;refine uM ?_;refine u_step (o_scall (s105 _ hb6_8) rfl ?_);refine ub ?_;refine u_nil ?_;refine wc (fun hc11=>?_) (fun hc11=>?_) <;> try simp only [Q0,Q1,Q2,Q3,Q4,Q5,Q6,Q7,Q8,ge_iff_le,gt_iff_lt] at hc11
 ·
  refine wr ?_;refine u_step (o_bu rfl th30 rfl rfl ?_);refine u_step0 (g_sta rfl rfl th30 rfl hb2_8 (by first | (simp;done) | (simp [D.leaves,D.width,valCells];done) | decide) fun o13 hb13 hk13=>?_);have hb6_13:=(hk13 _ (by omega)).trans hb6_8;have hb8_13:=(hk13 _ (by omega)).trans hb8;refine ua (u_nil (WP.ret ?_));refine retC_ok (resis_agg rfl th30 rfl hb13 rfl rfl rfl) rfl ?_ ?_ (by omega) (fun t ht=>(hk13 t (by omega)).trans ((hk8 t (by omega)).trans ((hk7 t (by omega)).trans ((hk6 t (by omega)).trans ((hk4 t (by omega)).trans ((hk2 t (by omega))))))))
  ·rfl
  ·rfl
 ·
  simp at hc11;exact absurd hc11 hd
structure OkF (f:Flt):Prop where
 lo:-9223372036854775808≤f.kinds
 hi:f.kinds≤9223372036854775807
instance:Inhabited Dlt:=⟨⟨0,[],zeroV,0⟩⟩
mutual
def nodesN:Val→Nat→Nat
 | .mk _ _ _ xs ns,d=>if 40 < d then 1048576 else nodesL xs d (1+ns.length)
def nodesL:List Val→Nat→Nat→Nat
 | [],_,n=>n
 | x :: xs,d,n=>if n < 65536 then nodesL xs d (n+nodesN x (d+1)) else n
end
mutual
theorem nodesN_le:∀ (v:Val) (d:Nat),nodesN v d≤1048576 * szV v
 | .mk k i t xs ns,d=>by
  have h1:=nodesL_le xs d (1+ns.length);have h2:=szN_len ns;simp only [nodesN,szV];split <;> omega
theorem nodesL_le:∀ (xs:List Val) (d n:Nat),nodesL xs d n≤n+1048576 * szVs xs
 | [],_,n=>by simp [nodesL,szVs]
 | x :: xs,d,n=>by
  have h1:=nodesN_le x (d+1);have h2:=nodesL_le xs d (n+nodesN x (d+1));simp only [nodesL,szVs];split <;> omega
end
end Go.Proofs.YtpkcbdhjnnnkbaaGreat.Abs

namespace Go.Proofs.YtpkcbdhjnnnkbaaGreat.Abs.Run44
open Go
noncomputable def tbl:List (Nat×Func):=[(34,Tryz.f34),(36,Tryz.f36),(38,Tryz.f38),(39,Tryz.f39),(41,Tryz.f41),(42,Tryz.f42),(44,Tryz.f44),(45,Tryz.f45),(47,Tryz.f47),(48,Tryz.f48),(50,Tryz.f50),(51,Tryz.f51),(54,Tryz.f54),(56,Tryz.f56),(70,Tryz.f70),(71,Tryz.f71),(72,Tryz.f72),(73,Tryz.f73),(74,Tryz.f74),(75,Tryz.f75),(76,Tryz.f76),(77,Tryz.f77),(84,Tryz.f84),(85,Tryz.f85),(86,Tryz.f86),(87,Tryz.f87),(92,Tryz.f92),(93,Tryz.f93),(98,Tryz.f98),(99,Tryz.f99),(100,Tryz.f100),(101,Tryz.f101),(102,Tryz.f102),(103,Tryz.f103),(104,Tryz.f104),(106,Tryz.f106),(107,Tryz.f107),(108,Tryz.f108),(109,Tryz.f109),(110,Tryz.f110),(111,Tryz.f111),(112,Tryz.f112),(114,Tryz.f114),(119,Tryz.f119),(120,Tryz.f120),(121,Tryz.f121),(122,Tryz.f122),(123,Tryz.f123),(124,Tryz.f124),(125,Tryz.f125),(126,Tryz.f126),(127,Tryz.f127),(128,Tryz.f128),(129,Tryz.f129),(130,Tryz.f130),(137,Tryz.f137),(138,Tryz.f138),(139,Tryz.f139),(142,Tryz.f142),(143,Tryz.f143),(146,Tryz.f146),(147,Tryz.f147),(148,Tryz.f148),(149,Tryz.f149),(150,Tryz.f150),(151,Tryz.f151),(152,Tryz.f152),(153,Tryz.f153),(154,Tryz.f154),(155,Tryz.f155),(156,Tryz.f156),(157,Tryz.f157),(158,Tryz.f158),(159,Tryz.f159),(160,Tryz.f160),(161,Tryz.f161),(162,Tryz.f162),(163,Tryz.f163),(169,Tryz.f169),(172,Tryz.f172),(173,Tryz.f173),(174,Tryz.f174),(175,Tryz.f175),(176,Tryz.f176),(177,Tryz.f177),(178,Tryz.f178),(179,Tryz.f179),(180,Tryz.f180),(181,Tryz.f181),(182,Tryz.f182),(183,Tryz.f183),(184,Tryz.f184),(185,Tryz.f185),(186,Tryz.f186),(187,Tryz.f187),(194,Tryz.f194),(195,Tryz.f195),(196,Tryz.f196),(197,Tryz.f197),(199,Tryz.f199),(202,Tryz.f202),(203,Tryz.f203),(204,Tryz.f204),(205,Tryz.f205),(206,Tryz.f206),(207,Tryz.f207),(209,Tryz.f209),(210,Tryz.f210),(211,Tryz.f211)]
theorem tbl_ok : ∀ p ∈ tbl, Tryz.prog.funcs[p.1]? = some p.2 ∧ (p.2.name == "runtime.NumGoroutine") = false := by
 simp only [tbl,List.forall_mem_cons];exact ⟨⟨Tryz.func34,by kernel_rfl⟩,⟨Tryz.func36,by kernel_rfl⟩,⟨Tryz.func38,by kernel_rfl⟩,⟨Tryz.func39,by kernel_rfl⟩,⟨Tryz.func41,by kernel_rfl⟩,⟨Tryz.func42,by kernel_rfl⟩,⟨Tryz.func44,by kernel_rfl⟩,⟨Tryz.func45,by kernel_rfl⟩,⟨Tryz.func47,by kernel_rfl⟩,⟨Tryz.func48,by kernel_rfl⟩,⟨Tryz.func50,by kernel_rfl⟩,⟨Tryz.func51,by kernel_rfl⟩,⟨Tryz.func54,by kernel_rfl⟩,⟨Tryz.func56,by kernel_rfl⟩,⟨Tryz.func70,by kernel_rfl⟩,⟨Tryz.func71,by kernel_rfl⟩,⟨Tryz.func72,by kernel_rfl⟩,⟨Tryz.func73,by kernel_rfl⟩,⟨Tryz.func74,by kernel_rfl⟩,⟨Tryz.func75,by kernel_rfl⟩,⟨Tryz.func76,by kernel_rfl⟩,⟨Tryz.func77,by kernel_rfl⟩,⟨Tryz.func84,by kernel_rfl⟩,⟨Tryz.func85,by kernel_rfl⟩,⟨Tryz.func86,by kernel_rfl⟩,⟨Tryz.func87,by kernel_rfl⟩,⟨Tryz.func92,by kernel_rfl⟩,⟨Tryz.func93,by kernel_rfl⟩,⟨Tryz.func98,by kernel_rfl⟩,⟨Tryz.func99,by kernel_rfl⟩,⟨Tryz.func100,by kernel_rfl⟩,⟨Tryz.func101,by kernel_rfl⟩,⟨Tryz.func102,by kernel_rfl⟩,⟨Tryz.func103,by kernel_rfl⟩,⟨Tryz.func104,by kernel_rfl⟩,⟨Tryz.func106,by kernel_rfl⟩,⟨Tryz.func107,by kernel_rfl⟩,⟨Tryz.func108,by kernel_rfl⟩,⟨Tryz.func109,by kernel_rfl⟩,⟨Tryz.func110,by kernel_rfl⟩,⟨Tryz.func111,by kernel_rfl⟩,⟨Tryz.func112,by kernel_rfl⟩,⟨Tryz.func114,by kernel_rfl⟩,⟨Tryz.func119,by kernel_rfl⟩,⟨Tryz.func120,by kernel_rfl⟩,⟨Tryz.func121,by kernel_rfl⟩,⟨Tryz.func122,by kernel_rfl⟩,⟨Tryz.func123,by kernel_rfl⟩,⟨Tryz.func124,by kernel_rfl⟩,⟨Tryz.func125,by kernel_rfl⟩,⟨Tryz.func126,by kernel_rfl⟩,⟨Tryz.func127,by kernel_rfl⟩,⟨Tryz.func128,by kernel_rfl⟩,⟨Tryz.func129,by kernel_rfl⟩,⟨Tryz.func130,by kernel_rfl⟩,⟨Tryz.func137,by kernel_rfl⟩,⟨Tryz.func138,by kernel_rfl⟩,⟨Tryz.func139,by kernel_rfl⟩,⟨Tryz.func142,by kernel_rfl⟩,⟨Tryz.func143,by kernel_rfl⟩,⟨Tryz.func146,by kernel_rfl⟩,⟨Tryz.func147,by kernel_rfl⟩,⟨Tryz.func148,by kernel_rfl⟩,⟨Tryz.func149,by kernel_rfl⟩,⟨Tryz.func150,by kernel_rfl⟩,⟨Tryz.func151,by kernel_rfl⟩,⟨Tryz.func152,by kernel_rfl⟩,⟨Tryz.func153,by kernel_rfl⟩,⟨Tryz.func154,by kernel_rfl⟩,⟨Tryz.func155,by kernel_rfl⟩,⟨Tryz.func156,by kernel_rfl⟩,⟨Tryz.func157,by kernel_rfl⟩,⟨Tryz.func158,by kernel_rfl⟩,⟨Tryz.func159,by kernel_rfl⟩,⟨Tryz.func160,by kernel_rfl⟩,⟨Tryz.func161,by kernel_rfl⟩,⟨Tryz.func162,by kernel_rfl⟩,⟨Tryz.func163,by kernel_rfl⟩,⟨Tryz.func169,by kernel_rfl⟩,⟨Tryz.func172,by kernel_rfl⟩,⟨Tryz.func173,by kernel_rfl⟩,⟨Tryz.func174,by kernel_rfl⟩,⟨Tryz.func175,by kernel_rfl⟩,⟨Tryz.func176,by kernel_rfl⟩,⟨Tryz.func177,by kernel_rfl⟩,⟨Tryz.func178,by kernel_rfl⟩,⟨Tryz.func179,by kernel_rfl⟩,⟨Tryz.func180,by kernel_rfl⟩,⟨Tryz.func181,by kernel_rfl⟩,⟨Tryz.func182,by kernel_rfl⟩,⟨Tryz.func183,by kernel_rfl⟩,⟨Tryz.func184,by kernel_rfl⟩,⟨Tryz.func185,by kernel_rfl⟩,⟨Tryz.func186,by kernel_rfl⟩,⟨Tryz.func187,by kernel_rfl⟩,⟨Tryz.func194,by kernel_rfl⟩,⟨Tryz.func195,by kernel_rfl⟩,⟨Tryz.func196,by kernel_rfl⟩,⟨Tryz.func197,by kernel_rfl⟩,⟨Tryz.func199,by kernel_rfl⟩,⟨Tryz.func202,by kernel_rfl⟩,⟨Tryz.func203,by kernel_rfl⟩,⟨Tryz.func204,by kernel_rfl⟩,⟨Tryz.func205,by kernel_rfl⟩,⟨Tryz.func206,by kernel_rfl⟩,⟨Tryz.func207,by kernel_rfl⟩,⟨Tryz.func209,by kernel_rfl⟩,⟨Tryz.func210,by kernel_rfl⟩,⟨Tryz.func211,by kernel_rfl⟩,by simp⟩
noncomputable def nofr:List Nat:=[34,38,54,85,87,92,93,104,106,107,108,109,138,139,143,151,179,180]
noncomputable def pures:List Nat:=[45,47,48,51,56,70,71,72,73,74,76,77,98,99,100,101,102,103,110,111,114,120,122,123,124,125,126,128,130,146,147,148,149,150,152,153,155,156,157,158,160,161,162,172,173,174,175,176,181,182,183,184,186,187,194,195,196,197,199,202,203,204,205,206,207,209,210,211]
def natF (f:Nat) (asx:List SV):Option D:=
 match asx with
 | [.d (.str s),.d (.int .u8 c)]=>bif Nat.beq f 208 then some (.int .i64 (Go.Lib.indexByte s c.toNat.toUInt8)) else none
 | [.d (.str s),.d (.str t)]=>bif Nat.beq f 212 then some (.int .i64 (Go.Lib.compareBytes s t)) else none
 | _=>none
theorem natF_ok (f:Nat) (asx:List SV) (d:D) (h:natF f asx=some d):PSpec Tryz.prog f asx (.d d):=by
 unfold natF at h;split at h
 ·rw [TM.beq_cond] at h;split at h
  ·rename_i hf;subst hf;simp only [Option.some.injEq] at h;subst h;exact s208 _ _
  ·cases h
 ·rw [TM.beq_cond] at h;split at h
  ·rename_i hf;subst hf;simp only [Option.some.injEq] at h;subst h;exact s212 _ _
  ·cases h
 ·cases h
noncomputable def env:Env:=⟨Θ,tbF tbl,natF,fun _=>true,fun f=>pures.contains f,fun _ _ _ _=>none⟩
theorem envOk:EnvOk Tryz.prog env:=⟨tabOk,fun f fn h=>tbF_ok tbl tbl_ok f fn h,natF_ok,mix,fun _ _ _ _ _ _ _ h=>by cases h⟩
theorem ran:isD (.bool true) (xCall env 1000000 44 (([]:List D).map .d) .e 0)=true:=by kernel_rfl
theorem s:PSpec Tryz.prog 44 (([]:List D).map .d) (.d (.bool true)):=PSpec.run envOk 1000000 (xs:=([]:List D)) ran
end Go.Proofs.YtpkcbdhjnnnkbaaGreat.Abs.Run44
namespace Go.Proofs.YtpkcbdhjnnnkbaaGreat.Abs
theorem s44:PSpec Tryz.prog 44 (([]:List D).map .d) (.d (.bool true)):=Run44.s
theorem o_cv_sr {P:Program} {Θ:Tab} {K:SV→(Nat→Option AO)→Nat→Prop} {sl:Nat→SV} {o:Nat→Option AO} {nk e q:Nat} {x:Operand} {i j je:TI} {src dst:Nat} {b:List UInt8} (hx:ev sl x=.row q) (ho:o q=some (.row e 1 (bytesD b))) (hi:Θ src=some i) (hik:i.k=.slice e) (he:Θ e=some je) (hek:je.k=.int .u8) (hj:Θ dst=some j) (hk:j.k=.str) (h:K (.d (.str b)) o nk):vOp P Θ (.convert src dst x) ⟨sl,o,nk⟩ K:=by
 refine Or.inl ?_;show coOp Θ o src dst (ev sl x) (fun v=>K v o nk);rw [hx];refine ⟨i,j,hi,hj,hk,⟨e,je,hik,he,hek⟩,bytesD b,b,by simp [srcOf,ho],?_,h⟩;exact byteL_bytesD b
theorem pow7 (i:Nat):2 ^ (7 * (i+1))=128 * 2 ^ (7 * i):=by
 rw [show 7 * (i+1)=7 * i+7 by omega,Nat.pow_add,Nat.mul_comm]
theorem ofNat_to (c:UInt8):UInt8.ofNat c.toNat=c:=by simp
theorem gR_rev:∀ (f:Nat) (b:List UInt8) (i u v n:Nat),gR f b i u=some (v,n)→∃ m,v=u+m * 2 ^ (7 * i)∧b.drop i=grp m++b.drop n∧(0 < i→0 < m)
 | 0,b,i,u,v,n,h=>by simp [gR] at h
 | f+1,b,i,u,v,n,h=>by
  simp only [gR] at h;split at h
  ·cases h
  ·rename_i c hc;obtain ⟨hl,hb⟩:=List.getElem?_eq_some_iff.1 hc;have hd:b.drop i=c :: b.drop (i+1):=by rw [List.drop_eq_getElem_cons hl,hb]
   have h256:=c.toNat_lt;split at h
   ·cases h
   ·rename_i hbad;split at h
    ·rename_i hlt;simp only [Option.some.injEq,Prod.mk.injEq] at h;obtain ⟨rfl,rfl⟩:=h;refine ⟨c.toNat,by rw [Nat.mod_eq_of_lt hlt],?_,fun hi=>by omega⟩;rw [grp_lt hlt,ofNat_to,hd];rfl
    ·rename_i hge;obtain ⟨m,h1,h2,h3⟩:=gR_rev f b (i+1) _ v n h;have h3:=h3 (by omega);refine ⟨m * 128+c.toNat % 128,?_,?_,fun _=>by omega⟩
     ·rw [h1,pow7,Nat.add_mul,Nat.mul_assoc];omega
     ·rw [grp_ge (by omega),hd,h2];have e1:(m * 128+c.toNat % 128) % 128+128=c.toNat:=by omega
      have e2:(m * 128+c.toNat % 128) / 128=m:=by omega
      rw [e1,e2,ofNat_to];rfl
theorem gP_rev {s:SB} (h:(gP s).2≠0):s.2=false∧s.1=grp (gP s).1++s.1.drop (gP s).2:=by
 cases hb:s.2 with
 | true=>rw [gP_bad hb] at h;exact absurd rfl h
 | false=>
  cases hg:rdG s.1 with
  | none=>rw [gP_no hg] at h;exact absurd rfl h
  | some p=>
   obtain ⟨v,n⟩:=p;rw [gP_ok hb hg];obtain ⟨m,h1,h2,_⟩:=gR_rev 10 s.1 0 0 v n hg;have:v=m:=by simpa using h1
   subst this;exact ⟨rfl,by simpa using h2⟩
theorem take_rev {s:SB} {n:Nat} {r:Bool} (h:(takeS s n r).2.2=false):s.2=false∧n≠0∧r=true∧takeS s n r=(true,(s.1.drop n,false)):=by
 unfold takeS at h ⊢;split at h
 ·cases h
 ·rename_i hn;rw [if_neg hn];simp only [not_or] at hn;exact ⟨by simpa using hn.1,hn.2.1,by simpa using hn.2.2,rfl⟩
theorem cnt_rev {s:SB} {most:Int} (h:(cntS s most).2.2=false):s.2=false∧s.1=grp (u64 (cntS s most).1)++(cntS s most).2.1∧0≤(cntS s most).1:=by
 obtain ⟨h1,h2,h3,h4⟩:=take_rev h;obtain ⟨_,h5⟩:=gP_rev h2;have hu:((gP s).1:Int)≤4611686018427387904:=by simp only [rightS,Bool.and_eq_true,decide_eq_true_eq] at h3;exact h3.1
 have e1:(cntS s most).1=((gP s).1:Int):=by
  rw [cntS_yes (by rw [h4]),wrap_i64 (by omega) (by omega)]
 have e2:(cntS s most).2=(s.1.drop (gP s).2,false):=by
  show (takeS s (gP s).2 (rightS (gP s).1 most)).2=_;rw [h4]
 rw [e1,e2];have e3:u64 ((gP s).1:Int)=(gP s).1:=by unfold u64;omega
 rw [e3];exact ⟨h1,h5,by omega⟩
theorem zig_zag {u:Nat} (h:u < 18446744073709551616):zigN (zagI u)=u:=by
 unfold zagI zigN u64;split <;> split <;> omega
theorem int_rev {s:SB} (h:(intS s).2.2=false):s.2=false∧s.1=grp (zigN (intS s).1)++(intS s).2.1:=by
 obtain ⟨h1,h2,h3,h4⟩:=take_rev h;obtain ⟨_,h5⟩:=gP_rev h2;have e1:(intS s).1=zagI (gP s).1:=intS_yes (by rw [h4]);have e2:(intS s).2=(s.1.drop (gP s).2,false):=by
  show (takeS s (gP s).2 true).2=_;rw [h4]
 rw [e1,e2,zig_zag (gP_len s).2.1];exact ⟨h1,h5⟩
theorem txt_rev {s:SB} {most:Int} (hx:s.1.length≤4611686018427387904) (h:(txtS s most).2.2=false):s.2=false∧s.1=txtC (txtS s most).1++(txtS s most).2.1:=by
 cases hb:txtBad s most with
 | true=>rw [txtS_no hb] at h;cases h
 | false=>
  obtain ⟨h1,h2,h3⟩:=txt_fits (by omega) hb;have hn:(gP s).2≠0:=by
   intro e;have:=hb;unfold txtBad at this;rw [e] at this;simp at this
  obtain ⟨_,h5⟩:=gP_rev hn;have hl:(grp (gP s).1).length=(gP s).2:=by
   have:=congrArg List.length h5;rw [List.length_append,List.length_drop] at this;have:=(gP_len s).1 h1;omega
  rw [txtS_ok hb];refine ⟨h1,?_⟩;have e0:((s.1.take ((gP s).2+(gP s).1)).drop (gP s).2).length=(gP s).1:=by rw [List.length_drop,List.length_take];omega
  rw [txtC,e0];have e3:u64 ((gP s).1:Int)=(gP s).1:=by unfold u64;omega
  rw [e3];show s.1=grp (gP s).1++List.drop (gP s).2 (List.take ((gP s).2+(gP s).1) s.1)++List.drop ((gP s).2+(gP s).1) s.1;have e4:s.1.take (gP s).2=grp (gP s).1:=by
   conv=>lhs;rw [h5]
   rw [← hl,List.take_left]
  have e5:grp (gP s).1++List.drop (gP s).2 (List.take ((gP s).2+(gP s).1) s.1)=List.take ((gP s).2+(gP s).1) s.1:=by
   rw [← e4];have:=List.take_append_drop (gP s).2 (List.take ((gP s).2+(gP s).1) s.1);rw [List.take_take,Nat.min_eq_left (by omega)] at this;exact this
  rw [e5,List.take_append_drop]
theorem byte_rev {s:SB} (h:(rdByte s).2.2=false):s.2=false∧s.1=b8 (rdByte s).1 :: (rdByte s).2.1∧0≤(rdByte s).1∧(rdByte s).1≤255:=by
 by_cases hn:s.2=true∨s.1=[]
 ·rw [rdByte_no hn] at h;cases h
 ·simp only [not_or] at hn;have hb:s.2=false:=by simpa using hn.1
  have hl:0 < s.1.length:=List.length_pos_iff.2 hn.2;rw [rdByte_ok hb hl];have h256:=(s.1[0]'hl).toNat_lt;refine ⟨hb,?_,by omega,by show ((s.1[0]'hl).toNat:Int)≤255;omega⟩;have e:b8 ((s.1[0]'hl).toNat:Int)=s.1[0]'hl:=by
   unfold b8;have:(((s.1[0]'hl).toNat:Int) % 256).toNat=(s.1[0]'hl).toNat:=by omega
   rw [this,ofNat_to]
  show s.1=b8 ((s.1[0]'hl).toNat:Int) :: s.1.drop 1;rw [e];exact (List.drop_eq_getElem_cons (i:=0) hl)
theorem rdIs_rev {rd:SB→Val×SB} {doc:Bool} (hle:∀ s,(rd s).2.1.length≤s.1.length) (hrd:∀ s:SB,s.1.length≤4611686018427387904→(rd s).2.2=false→s.2=false∧s.1=codV (rd s).1++(rd s).2.1):∀ (n:Nat) (s:SB) (ys:List Val) (ms:List Str),s.1.length≤4611686018427387904→(rdIs rd doc n s ys ms).2.2.2=false→
    s.2=false∧∃ xs ns,(rdIs rd doc n s ys ms).1=ys++xs∧(rdIs rd doc n s ys ms).2.1=ms++ns∧xs.length=n∧s.1=codVs doc xs ns++(rdIs rd doc n s ys ms).2.2.1
  | 0,s,ys,ms,_,h=>⟨h,[],[],by simp [rdIs],by simp [rdIs],rfl,by simp [rdIs,codVs]⟩
  | n+1,s,ys,ms,hx,h=>by
    by_cases hb:s.2=true
    · rw [rdIs_bad hb] at h;rw [hb] at h;cases h
    · have hb0:s.2=false:=by simpa using hb
      refine ⟨hb0,?_⟩;by_cases hd:doc=true
      · rw [rdIs_doc hd hb] at h ⊢;have hx2:(txtS s 32).2.1.length≤4611686018427387904:=Nat.le_trans (txt_le s 32) hx;obtain ⟨h1,xs,ns,e1,e2,e3,e4⟩:=rdIs_rev hle hrd n _ _ _ (Nat.le_trans (hle _) hx2) h;obtain ⟨h2,e5⟩:=hrd _ hx2 h1;obtain ⟨_,e6⟩:=txt_rev hx h2;refine ⟨(rd (txtS s 32).2).1 :: xs,(txtS s 32).1 :: ns,by rw [e1];simp,by rw [e2];simp,by simp [e3],?_⟩;simp only [codVs,if_pos hd,List.headD_cons,List.tail_cons,List.append_assoc];rw [← e4,← e5,← e6]
      · rw [rdIs_arr hd hb] at h ⊢;obtain ⟨h1,xs,ns,e1,e2,e3,e4⟩:=rdIs_rev hle hrd n _ _ _ (Nat.le_trans (hle _) hx) h;obtain ⟨h2,e5⟩:=hrd _ hx h1;refine ⟨(rd s).1 :: xs,ns,by rw [e1];simp,e2,by simp [e3],?_⟩;have hc:∀ (l:List Val) (a b:List Str),codVs doc l a=codVs doc l b:=fun l=>by
          induction l with
          | nil=>intros;rfl
          | cons y l ih=>intro a b;simp only [codVs,if_neg hd,ih a.tail b.tail]
        simp only [codVs,if_neg hd,List.nil_append,List.append_assoc];rw [hc xs ns.tail ns,← e4,← e5]
theorem rdV_rev:∀ (d:Nat) (s:SB),s.1.length≤4611686018427387904→(rdV d s).2.2=false→s.2=false∧s.1=codV (rdV d s).1++(rdV d s).2.1
 | 0,s,hx,h=>by cases h
 | d+1,s,hx,h=>by
  by_cases h1:(rdByte s).1=1
  ·simp only [rdV,if_pos h1] at h ⊢;obtain ⟨a,b,_⟩:=byte_rev h;refine ⟨a,?_⟩;simp only [codV,if_pos h1,List.cons_append,List.nil_append];exact b
  by_cases h2:(rdByte s).1=2
  ·simp only [rdV,if_neg h1,if_pos h2] at h ⊢;obtain ⟨a2,b2,_⟩:=byte_rev h;obtain ⟨a,b,_⟩:=byte_rev a2;refine ⟨a,?_⟩;simp only [codV,if_neg h1,if_pos h2,List.cons_append,List.nil_append];rw [← b2];exact b
  by_cases h3:(rdByte s).1=3
  ·simp only [rdV,if_neg h1,if_neg h2,if_pos h3] at h ⊢;obtain ⟨a2,b2⟩:=int_rev h;obtain ⟨a,b,_⟩:=byte_rev a2;refine ⟨a,?_⟩;simp only [codV,if_neg h1,if_neg h2,if_pos h3,List.cons_append];rw [← b2];exact b
  by_cases h4:(rdByte s).1=4∨(rdByte s).1=5
  ·simp only [rdV,if_neg h1,if_neg h2,if_neg h3,if_pos h4] at h ⊢;obtain ⟨a2,b2⟩:=txt_rev (Nat.le_trans (byte_le s) hx) h;obtain ⟨a,b,_⟩:=byte_rev a2;refine ⟨a,?_⟩;simp only [codV,if_neg h1,if_neg h2,if_neg h3,if_pos h4,List.cons_append];rw [← b2];exact b
  by_cases h6:(rdByte s).1=6∨(rdByte s).1=7
  ·simp only [rdV,if_neg h1,if_neg h2,if_neg h3,if_neg h4,if_pos h6] at h ⊢;have hx2:=Nat.le_trans (cnt_le (rdByte s).2 4096) (Nat.le_trans (byte_le s) hx);obtain ⟨a3,xs,ns,e1,e2,e3,e4⟩:=rdIs_rev (rdV_le d) (rdV_rev d) _ _ _ _ hx2 h;obtain ⟨a2,b2,c2⟩:=cnt_rev a3;obtain ⟨a,b,_⟩:=byte_rev a2;refine ⟨a,?_⟩;rw [List.nil_append] at e1 e2;rw [e1,e2];simp only [codV,if_neg h1,if_neg h2,if_neg h3,if_neg h4,List.cons_append,List.append_assoc];have e5:((xs.length:Nat):Int)=(cntS (rdByte s).2 4096).1:=by omega
   rw [e5,← e4,← b2];exact b
  ·simp only [rdV,if_neg h1,if_neg h2,if_neg h3,if_neg h4,if_neg h6] at h;cases h
theorem rdAll_rev {s:SB} (hx:s.1.length≤4611686018427387904) (h:(rdAll s).2.2=false):s.2=false∧s.1=codV (rdAll s).1++(rdAll s).2.1:=by
 by_cases hb:(rdV 8 s).2.2=true∨¬ checkV (rdV 8 s).1=0
 ·rw [rdAll_no hb] at h;cases h
 ·rw [rdAll_ok hb] at h ⊢;exact rdV_rev 8 s hx h
theorem rdTs_rev:∀ (n:Nat) (s:SB) (ms:List Str),s.1.length≤4611686018427387904→(rdTs n s ms).2.2=false→s.2=false∧∃ p,(rdTs n s ms).1=ms++p∧p.length=n∧s.1=codP p++(rdTs n s ms).2.1
 | 0,s,ms,_,h=>⟨h,[],by simp [rdTs],rfl,by simp [rdTs,codP]⟩
 | n+1,s,ms,hx,h=>by
  rw [rdTs] at h ⊢;obtain ⟨h1,p,e1,e2,e3⟩:=rdTs_rev n _ _ (Nat.le_trans (txt_le s 32) hx) h;obtain ⟨h2,e4⟩:=txt_rev hx h1;refine ⟨h2,(txtS s 32).1 :: p,by rw [e1];simp,by simp [e2],?_⟩;have hc:codP ((txtS s 32).1 :: p)=txtC (txtS s 32).1++codP p:=by simp [codP]
  rw [hc,List.append_assoc,← e3];exact e4
theorem rdDl_rev {s:SB} (hx:s.1.length≤4611686018427387904) (h:(rdDl s).2.2=false):s.2=false∧s.1=codD (rdDl s).1++(rdDl s).2.1:=by
 unfold rdDl at h ⊢;have hx1:=Nat.le_trans (byte_le s) hx;have hx2:=Nat.le_trans (cnt_le (rdByte s).2 8) hx1;have hx3:=Nat.le_trans (rdTs_le (cntS (rdByte s).2 8).1.toNat (cntS (rdByte s).2 8).2 []) hx2;generalize hk:(rdByte s).1=k at h ⊢;generalize hp:(rdTs (cntS (rdByte s).2 8).1.toNat (cntS (rdByte s).2 8).2 [])=pr at h ⊢ hx3;obtain ⟨p,s3⟩:=pr;simp only at h ⊢ hx3;by_cases hm:mayD (rdD3 rdAll k p s3).1=true
 ·rw [spoil_yes hm] at h ⊢;have key:s3.2=false∧s3.1=codDv (rdD3 rdAll k p s3).1++(rdD3 rdAll k p s3).2.1∧(rdD3 rdAll k p s3).1.kind=k∧(rdD3 rdAll k p s3).1.path=p:=by
   unfold rdD3 at h ⊢;split at h
   ·rename_i h1;obtain ⟨a,b⟩:=rdAll_rev hx3 h;rw [if_pos h1];refine ⟨a,?_,rfl,rfl⟩;simp only [codDv,if_pos h1];exact b
   ·rename_i h1;split at h
    ·rename_i h3;obtain ⟨a,b,_⟩:=cnt_rev h;rw [if_neg h1,if_pos h3];refine ⟨a,?_,rfl,rfl⟩;simp only [codDv,if_neg h1,if_pos h3];exact b
    ·rename_i h3;rw [if_neg h1,if_neg h3];refine ⟨h,?_,rfl,rfl⟩;simp only [codDv,if_neg h1,if_neg h3,List.nil_append]
  obtain ⟨h3,e3,k3,p3⟩:=key;have hT:(rdTs (cntS (rdByte s).2 8).1.toNat (cntS (rdByte s).2 8).2 []).2.2=false:=by rw [hp];exact h3
  obtain ⟨h2,p',e1,e2,e4⟩:=rdTs_rev _ _ _ hx2 hT;rw [hp] at e1 e4;simp only [List.nil_append] at e1;subst e1;obtain ⟨h1,e5,e6⟩:=cnt_rev h2;obtain ⟨h0,e7,_⟩:=byte_rev h1;refine ⟨h0,?_⟩;rw [hk] at e7;simp only [codD,codD1,k3,p3,List.take_length,List.cons_append,List.append_assoc];have e8:((p.length:Nat):Int)=(cntS (rdByte s).2 8).1:=by omega
  simp only at e4;rw [e8,← e3,← e4,← e5];exact e7
 ·rw [spoil_no hm] at h;cases h
theorem rdDls_rev:∀ (n:Nat) (s:SB) (ds:List Dlt),s.1.length≤4611686018427387904→(rdDls n s ds).2.2=false→s.2=false∧∃ l,(rdDls n s ds).1=ds++l∧l.length=n∧s.1=l.flatMap codD++(rdDls n s ds).2.1
 | 0,s,ds,_,h=>⟨h,[],by simp [rdDls],rfl,by simp [rdDls]⟩
 | n+1,s,ds,hx,h=>by
  rw [rdDls] at h ⊢;obtain ⟨h1,l,e1,e2,e3⟩:=rdDls_rev n _ _ (Nat.le_trans (rdDl_le s) hx) h;obtain ⟨h2,e4⟩:=rdDl_rev hx h1;rw [if_neg (by rw [h1];decide)] at e1 e3 ⊢;refine ⟨h2,(rdDl s).1 :: l,by rw [e1];simp,by simp [e2],?_⟩;rw [List.flatMap_cons,List.append_assoc,← e3];exact e4
theorem rdDsP_rev {s:SB} (hx:s.1.length≤4611686018427387904) (h:(rdDsP s).2.2=false):s.2=false∧s.1=codDs (rdDsP s).1++(rdDsP s).2.1:=by
 unfold rdDsP at h ⊢;have h0:(rdDls (cntS s 64).1.toNat (cntS s 64).2 []).2.2=false:=h;obtain ⟨h1,l,e1,e2,e3⟩:=rdDls_rev _ _ _ (Nat.le_trans (cnt_le s 64) hx) h0;obtain ⟨h2,e4,e5⟩:=cnt_rev h1;rw [rdDq_ok (by rw [h0];decide)];refine ⟨h2,?_⟩;rw [List.nil_append] at e1;rw [e1,codDs,List.append_assoc,← e3];have e8:((l.length:Nat):Int)=(cntS s 64).1:=by omega
 rw [e8];exact e4
theorem optS_rev {α:Type} {b:Bool} {z:α} {rd:SB→α×SB} {s:SB} {cod:α→Str} (hr:(rd s).2.2=false→s.2=false∧s.1=cod (rd s).1++(rd s).2.1) (h:(optS b z rd s).2.2=false):s.2=false∧s.1=optC b (cod (optS b z rd s).1)++(optS b z rd s).2.1:=by
 by_cases hb:b=true
 ·rw [optS_yes hb] at h ⊢;rw [optC,if_pos hb];exact hr h
 ·rw [optS_no hb] at h ⊢;rw [optC,if_neg hb];exact ⟨h,rfl⟩
theorem rdEt_rev {s:SB} (hx:s.1.length≤4611686018427387904) (h:(rdEt rdAll rdDsP s).2.2=false):mayE (rdEt rdAll rdDsP s).1=true∧rdEt rdAll rdDsP s=(eAll rdAll rdDsP s,(eL rdAll rdDsP s).2)∧s.1=codE (rdEt rdAll rdDsP s).1++(rdEt rdAll rdDsP s).2.1:=by
 by_cases hb:(eL rdAll rdDsP s).2.2=true∨¬ mayE (eAll rdAll rdDsP s)=true
 ·rw [rdEt_no hb] at h;cases h
 ·rw [rdEt_ok hb] at h ⊢;simp only [not_or] at hb;have l0:=eN_le s;have l1:=eC_le s;have l2:=eO_le s;have l3:=eI_le rdAll_le s;have l4:=eD_le rdAll_le s;obtain ⟨hD,e1⟩:=optS_rev (b:=hsB (eK s).1 16) (z:=([]:List Dlt)) (rd:=rdDsP) (cod:=codDs) (fun h=>rdDsP_rev (by omega) h) h;obtain ⟨hI,e2⟩:=optS_rev (b:=hsB (eK s).1 8) (z:=V0) (rd:=rdAll) (cod:=codV) (fun h=>rdAll_rev (by omega) h) hD;obtain ⟨hO,e3⟩:=optS_rev (b:=hsB (eK s).1 4) (z:=V0) (rd:=rdAll) (cod:=codV) (fun h=>rdAll_rev (by omega) h) hI;obtain ⟨hC,e4⟩:=optS_rev (b:=hsB (eK s).1 2) (z:=([]:Str)) (rd:=fun s=>txtS s 32) (cod:=txtC) (fun h=>txt_rev (by omega) h) hO;obtain ⟨hN,e5⟩:=optS_rev (b:=hsB (eK s).1 1) (z:=([]:Str)) (rd:=fun s=>txtS s 32) (cod:=txtC) (fun h=>txt_rev (by omega) h) hC;obtain ⟨hS,e6,_⟩:=cnt_rev hN;obtain ⟨hK,e7,_⟩:=cnt_rev hS;obtain ⟨hT,e8,_⟩:=byte_rev hK;obtain ⟨_,e9,_⟩:=cnt_rev hT;refine ⟨by simpa using hb.2,rfl,?_⟩;simp only [codE,codE4,codE3,codE2,codE1,codE0,eAll,List.append_assoc,List.cons_append];have f1:(eD rdAll s).2.1=optC (hsB (eK s).1 16) (codDs (eL rdAll rdDsP s).1)++(eL rdAll rdDsP s).2.1:=e1;have f2:(eI rdAll s).2.1=optC (hsB (eK s).1 8) (codV (eD rdAll s).1)++(eD rdAll s).2.1:=e2;have f3:(eO s).2.1=optC (hsB (eK s).1 4) (codV (eI rdAll s).1)++(eI rdAll s).2.1:=e3;have f4:(eC s).2.1=optC (hsB (eK s).1 2) (txtC (eO s).1)++(eO s).2.1:=e4;have f5:(eN s).2.1=optC (hsB (eK s).1 1) (txtC (eC s).1)++(eC s).2.1:=e5;have f6:(eS s).2.1=grp (u64 (eN s).1)++(eN s).2.1:=e6;have f7:(eK s).2.1=grp (u64 (eS s).1)++(eS s).2.1:=e7;have f8:(eT s).2.1=b8 (eK s).1 :: (eK s).2.1:=e8;have f9:s.1=grp (u64 (eT s).1)++(eT s).2.1:=e9;rw [← f1,← f2,← f3,← f4,← f5,← f6,← f7,← f8];exact f9
noncomputable def decE (r:Etr×SB):Etr:=if doneS r.2=0 then r.1 else E0
theorem done_two (s:SB):¬ doneS s=0→doneS s=10:=by unfold doneS;split <;> simp
theorem leT2 (x:Int):D.les [.agg [.int .i64 0,.int .i64 0,.str [],.str [],.int .i64 0,.int .i64 0,.str [],.nil,.nil,.int .i64 0,.int .i64 0,.str [],.nil,.nil,.nil,.int .i64 0,.int .i64 0],.int .i64 x] [encE E0,.int .i64 x]:=by
 simp only [D.les];exact ⟨leE0,D.le_refl _,trivial⟩
theorem s51w (b:List UInt8) (hx:b.length≤1048576):PSpec Tryz.prog 51 [.d (.sl 1 (b.map encB))] (.tup ([encE (decE (rdEt rdAll rdDsP (b,false))),.int .i64 (doneS (rdEt rdAll rdDsP (b,false)).2)].map .d)):=by
 by_cases hd:doneS (rdEt rdAll rdDsP (b,false)).2=0
 ·have h:=s51y b hx hd;rw [decE,if_pos hd,hd];exact h
 ·have h:=(s51n b hx hd).leT (leT2 10);rw [decE,if_neg hd,done_two _ hd];exact h
theorem s53w (b:List UInt8) (hx:b.length≤1048576):PSpec Tryz.prog 53 [.d (.sl 1 (b.map encB))] (.tup ([encE (decE (rdEt rdAll rdDsP (b,false))),.int .i64 (doneS (rdEt rdAll rdDsP (b,false)).2)].map .d)):=by
 have hq:=rdEt_q (SBq.refl (b,false));have hdd:doneS (rdEt rdAll rdDsP (b,false)).2=doneS (rdEt rdAllR rdDsR (b,false)).2:=by
  rcases hq.2.cases with e | ⟨h1,h2⟩
  ·rw [e]
  ·simp [doneS,h1,h2]
 rw [decE,hdd,hq.1];by_cases hd:doneS (rdEt rdAllR rdDsR (b,false)).2=0
 ·have h:=s53y b hx hd;rw [if_pos hd,hd];exact h
 ·have h:=(s53n b hx hd).leT (leT2 10);rw [if_neg hd,done_two _ hd];exact h
theorem dec_ok {b:List UInt8} (hx:b.length≤1048576) (hd:doneS (rdEt rdAll rdDsP (b,false)).2=0):mayE (decE (rdEt rdAll rdDsP (b,false)))=true∧OkE (decE (rdEt rdAll rdDsP (b,false)))∧codE (decE (rdEt rdAll rdDsP (b,false)))=b:=by
 rw [decE,if_pos hd];have h2:(rdEt rdAll rdDsP (b,false)).2.2=false∧(rdEt rdAll rdDsP (b,false)).2.1=[]:=by
  unfold doneS at hd;split at hd
  ·cases hd
  ·rename_i hn;simp only [not_or,Nat.not_lt,Nat.le_zero] at hn;exact ⟨by simpa using hn.1,List.length_eq_zero_iff.1 hn.2⟩
 obtain ⟨h3,h4,h5⟩:=rdEt_rev (s:=(b,false)) (by simp only;omega) h2.1;refine ⟨h3,by rw [h4];exact okE_read _ hx,?_⟩;rw [h2.2,List.append_nil] at h5;exact h5.symm
theorem fn11:FnOk Tryz.prog 11 54 [2] (bodyOf Tryz.f11):=⟨Tryz.f11,Tryz.func11,by kernel_rfl,by decide,by kernel_rfl,by kernel_rfl⟩
theorem s11 (b:List UInt8):PSpec Tryz.prog 11 [.d (.sl 1 (b.map encB))] (.d (.bool true)):=by
 refine PSpec.of fn11 (by simp) fun o nk=>?_;refine wr ?_;refine ua ?_;refine u_nil ?_;refine WP.seq fun K2 hK2=>?_;refine wr ?_;refine um ?_;refine un th52 ?_;refine ub ?_;refine u_nil ?_;refine wc (fun hc4=>?_) (fun hc4=>?_) <;> try simp only [Q0,Q1,Q2,Q3,Q4,Q5,Q6,Q7,Q8,ge_iff_le,gt_iff_lt] at hc4
 ·
  refine wr ?_;refine u_step (o_pcall (s44) rfl ?_);refine ua (u_nil (WP.ret ?_));refine ret_ok rfl ?_ (by omega) (fun _ _=>rfl);rfl
 ·
  have hlen:b.length≤20000:=by have hgo:=hc4;simp at hgo;omega
  refine WP.skip (hK2 _ (wr ?_));refine u_step (g_bs0 th52 rfl th5 rfl rfl (by decide) fun o7 hb7 hk7=>?_);refine um ?_;refine u_step (g_ap rfl rfl th52 rfl th5 rfl rfl (by decide) rfl hb7 (by simp;omega) (by simp;omega) fun o8 hb8 hk8=>?_);refine u_step (o_pcallF (us:=[.row _]) hb8 (s51w b (by omega)) rfl (by simp [SV.frz]) fun o9 hk9=>?_);refine u_step (o_moveV (v:=.tup _) rfl ?_);refine ue (ue ?_);refine u_step (g_alloc th30 rfl fun o10 hb10 hk10=>?_);refine u_step0 (g_sta rfl rfl th30 rfl hb10 (by first | (simp;done) | (simp [D.leaves,D.width,valCells];done) | decide) fun o11 hb11 hk11=>?_);refine ua (u_nil (wr (um ?_)));refine u_step (o_pcall (s53w b (by omega)) rfl ?_);refine u_step (o_moveV (v:=.tup _) rfl ?_);refine ue (ue ?_);refine u_step (g_alloc th30 rfl fun o13 hb13 hk13=>?_);have hb11_13:=(hk13 _ (by omega)).trans hb11;refine u_step0 (g_sta rfl rfl th30 rfl hb13 (by first | (simp;done) | (simp [D.leaves,D.width,valCells];done) | decide) fun o14 hb14 hk14=>?_);have hb11_14:=(hk14 _ (by omega)).trans hb11_13;refine ua (u_nil (WP.seq fun K15 hK15=>?_));refine wr ?_;refine u_step (o_pcall (s44) rfl ?_);refine uN (um ?_);apply gF
  ·rfl
  ·intro hg;exact pm
  apply gF
  ·rfl
  ·intro hg;exact pm
  apply gF
  ·rfl
  ·intro hg;try simp only [hg,ct,Bt]
   exact pb
  refine uO (um ?_);apply gF
  ·rfl
  ·intro hg;exact pg th30 hb11_14
  apply gF
  ·rfl
  ·intro hg;exact pg th30 hb14
  apply gF
  ·rfl
  ·intro hg;try simp only [hg,ct,Bt]
   refine o_pcall (s46 (decE (rdEt rdAll rdDsP (b,false))) (decE (rdEt rdAll rdDsP (b,false)))) rfl ⟨rfl,rfl,rfl⟩
  apply gF
  ·rfl
  ·intro hg;try simp only [hg,ct,Bt]
   exact pN
  refine uO ?_;refine u_nil ?_;refine wc (fun hc17=>?_) (fun hc17=>?_) <;> try simp only [Q0,Q1,Q2,Q3,Q4,Q5,Q6,Q7,Q8,ge_iff_le,gt_iff_lt] at hc17
  ·
   exfalso;have hg9:=hc17;simp [sameE_refl] at hg9
  ·
   refine WP.skip ?_;refine hK15 _ ?_;refine WP.seq fun K18 hK18=>?_;refine wr ?_;refine um ?_;refine ub ?_;refine u_nil ?_;refine wc (fun hc20=>?_) (fun hc20=>?_) <;> try simp only [Q0,Q1,Q2,Q3,Q4,Q5,Q6,Q7,Q8,ge_iff_le,gt_iff_lt] at hc20
   ·
    refine wr (ua (u_nil (WP.ret ?_)));refine ret_ok rfl ?_ (by omega) (fun t ht=>(hk14 t (by omega)).trans ((hk13 t (by omega)).trans ((hk11 t (by omega)).trans ((hk10 t (by omega)).trans ((hk9 t (by omega)).trans ((hk8 t (by omega) (by omega)).trans ((hk7 t (by omega)))))))));rfl
   ·
    have hd0:doneS (rdEt rdAll rdDsP (b,false)).2=0:=by have hgo:=hc20;simpa using hgo
    have hdo:=dec_ok (by omega) hd0;refine WP.skip (hK18 _ (wr (ug th30 hb11_14 ?_)));refine u_step (o_rdcall (s50 (decE (rdEt rdAll rdDsP (b,false))) hdo.2.1 hdo.1) rfl fun q23 o23 nk23 hqa23 hqb23 hb23 hk23=>?_);have hb11_23:=(hk23 _ (by omega)).trans hb11_14;have hb14_23:=(hk23 _ (by omega)).trans hb14;refine u_step (o_moveV (v:=.tup _) rfl ?_);refine ue (ue (uS (ua (u_nil (wr (um (ub (um ?_))))))));apply gT
    ·rfl
    ·intro hg;refine o_moveV (v:=.row _) rfl ⟨rfl,rfl,rfl⟩
    apply gT
    ·rfl
    ·intro hg;try simp only [hg,ct,Bt]
     refine o_cv_sr (b:=codE (decE (rdEt rdAll rdDsP (b,false)))) rfl hb23 th52 rfl th5 rfl th9 rfl ⟨rfl,rfl,rfl⟩
    apply gT
    ·rfl
    ·intro hg;exact pm
    apply gT
    ·rfl
    ·intro hg;try simp only [hg,ct,Bt]
     refine o_cv_sb (b:=b) rfl th52 rfl th5 rfl th9 rfl ⟨rfl,rfl,rfl⟩
    apply gT
    ·rfl
    ·intro hg;try simp only [hg,ct,Bt]
     exact ps
    refine uA (ua (u_nil (WP.ret ?_)));refine ret_ok rfl ?_ (by omega) (fun t ht=>(hk23 t (by omega)).trans ((hk14 t (by omega)).trans ((hk13 t (by omega)).trans ((hk11 t (by omega)).trans ((hk10 t (by omega)).trans ((hk9 t (by omega)).trans ((hk8 t (by omega) (by omega)).trans ((hk7 t (by omega))))))))));rw [hdo.2.2];simp
end Go.Proofs.YtpkcbdhjnnnkbaaGreat.Abs

namespace Go.Proofs.YtpkcbdhjnnnkbaaGreat.lawEntryDecodes
open Go Abs
open Go.ChangeShapes Go.WideShapes Go.ChangeAt Go.RowKit
theorem own:ownKnob Tryz.prog.godebug=none:=by kernel_rfl
theorem laid:laidOutB Tryz.prog=true:=by kernel_rfl
theorem contract (H:Type) (enc:TypeId×Value→H) (W:World) (base:Nat) (args:Array Value) (ds gs:List (DataW H)) (before:List MemPlace)
    (hval:∀ (j:Nat) t v,Tryz.f11.params[j]?=some t→args[j]?=some v→Value.okWide Tryz.prog W .any base t v)
    (hW:DataW.Whole enc Tryz.prog Tryz.f11.params.toList Rows.entryDecodesSpec.vars false W args.toList ds gs before) (hk:Rows.uptoSmall H (ds++gs)=true) :
    Calls Tryz.prog 11 args W fun e W'=>∃ v,e=.returned v∧Rows.entryDecodesSpec.post enc Tryz.prog Tryz.f11 false true false false W args v W':=by
  have hW':=hW;obtain ⟨p,q,hA0,hV,rfl,hfz,hnd⟩:=hW;have hA:DataW.TrodAll enc Tryz.prog W 0 (fun _=>true) true Tryz.f11.params.toList args.toList ds p:=hA0;rw [Tryz.params11] at hA hval;obtain ⟨v0,vs0,d0,ds0,p0,q0,hargs,rfl,rfl,h0,r0⟩:=trodAll_cons hA;obtain ⟨rfl,rfl,rfl⟩:=trodAll_nil r0;obtain rfl:args=#[v0]:=by cases args;simp_all
  obtain ⟨rfl,rfl⟩:=trodVars_none hV;clear hA0;simp only [List.append_nil] at hW' hk;have hb:Rows.uptoBulkAll [d0]≤1048576:=of_decide_eq_true hk;simp only [Rows.uptoBulkAll] at hb;obtain ⟨n0,t0⟩:=h0;obtain ⟨b,c0,a0⟩:=open_bytes t0;have x0:=rdv_one (hval 0 52 v0 rfl rfl) (tabOk _ _ th52) rfl c0;refine (calls_of_spec (vs:=[v0]) (ds:=[.sl 1 (b.map encB)]) Tryz.func11 (by kernel_rfl) (by kernel_rfl) (s11 b) ⟨rfl,fun i x v hx hv=>?_⟩).mono fun e W' ⟨he,hg⟩=>?_
  · match i,hx,hv with
    | 0,hx,hv=>simp at hx hv;subst hx;subst hv;exact x0
    | i+1,hx,hv=>simp at hx
  subst he;exact ⟨_,rfl,post_of_below (pa:=p0++[]) (pv:=[]) hW' (fun _ _ _=>trodAll_cons_mk (shut_bool Tryz.underlying4 _) trodAll_mk0) (fun sp hs=>trodAll_stays laid hg (by kernel_rfl) hA (fun x hx=>hs x (by simpa using hx)) (fun x hx=>hW'.lt x (by simpa using hx))) (fun _ _=>rfl) (by simp) hg (ok_one (by kernel_rfl) rfl (okWide_bool_mk Tryz.underlying4 _))⟩
set_option maxRecDepth 100000 in
theorem lifted (os:Os) (started:os.Started) (H:Type) (enc:TypeId×Value→H) (F:Stop.Interp) :
    ReturnsInHanded {} Tryz.checked os 11 .any ((Rows.OpenSpec.upto Rows.entryDecodesSpec).pre6 enc Tryz.prog Tryz.f11 Rows.entryDecodesUptoRow.domain false) (((Rows.OpenSpec.upto Rows.entryDecodesSpec).at F).post enc Tryz.prog Tryz.f11 false true false false):=by
  refine returnsInHanded_of_cond (C:=Tryz.checked) (s:=Rows.OpenSpec.upto Rows.entryDecodesSpec) (k:=Rows.uptoSmall) rfl own started (by kernel_rfl) Tryz.func11
    (OpenSpec.witness (enc:=enc) (C:=Tryz.checked) (s:=Rows.OpenSpec.upto Rows.entryDecodesSpec) (k:=Rows.uptoSmall) rfl false ⟨#[],#[.slice none 0 0],[]⟩ 8 (by kernel_rfl) (by kernel_rfl) (by kernel_rfl)
      (x:=([.nil],[],[])) (by kernel_rfl) rfl (by kernel_rfl)) ?_
  intro W base args ds gs before hval hW _ hk _;exact contract H enc W base args ds gs before hval hW hk
theorem j0:(fun (P:Program) (f:FuncId) (fn:Func) (s:ChangeSpec) (c:OpenClaim)=>(c.wf (OpenSpec.ofChange s):Bool)) Tryz.checked.prog 11 Tryz.f11 (Rows.OpenSpec.upto Rows.entryDecodesSpec).bare Rows.entryDecodesUptoRow=true:=by kernel_rfl
theorem j1:(fun (P:Program) (f:FuncId) (fn:Func) (s:ChangeSpec) (c:OpenClaim)=>(laidOutB P:Bool)) Tryz.checked.prog 11 Tryz.f11 (Rows.OpenSpec.upto Rows.entryDecodesSpec).bare Rows.entryDecodesUptoRow=true:=by kernel_rfl
theorem j2:(fun (P:Program) (f:FuncId) (fn:Func) (s:ChangeSpec) (c:OpenClaim)=>(mapsRowed P:Bool)) Tryz.checked.prog 11 Tryz.f11 (Rows.OpenSpec.upto Rows.entryDecodesSpec).bare Rows.entryDecodesUptoRow=true:=by kernel_rfl
theorem j3:(fun (P:Program) (f:FuncId) (fn:Func) (s:ChangeSpec) (c:OpenClaim)=>(fn.params.all (P.readableRec ·):Bool)) Tryz.checked.prog 11 Tryz.f11 (Rows.OpenSpec.upto Rows.entryDecodesSpec).bare Rows.entryDecodesUptoRow=true:=by kernel_rfl
theorem j4:(fun (P:Program) (f:FuncId) (fn:Func) (s:ChangeSpec) (c:OpenClaim)=>(namedTie P c.named s.vars:Bool)) Tryz.checked.prog 11 Tryz.f11 (Rows.OpenSpec.upto Rows.entryDecodesSpec).bare Rows.entryDecodesUptoRow=true:=by kernel_rfl
theorem j5:(fun (P:Program) (f:FuncId) (fn:Func) (s:ChangeSpec) (c:OpenClaim)=>((c.stops == []):Bool)) Tryz.checked.prog 11 Tryz.f11 (Rows.OpenSpec.upto Rows.entryDecodesSpec).bare Rows.entryDecodesUptoRow=true:=by kernel_rfl
theorem j6:(fun (P:Program) (f:FuncId) (fn:Func) (s:ChangeSpec) (c:OpenClaim)=>((P.stops == []):Bool)) Tryz.checked.prog 11 Tryz.f11 (Rows.OpenSpec.upto Rows.entryDecodesSpec).bare Rows.entryDecodesUptoRow=true:=by kernel_rfl
theorem j7:(fun (P:Program) (f:FuncId) (fn:Func) (s:ChangeSpec) (c:OpenClaim)=>((c.knobs == []):Bool)) Tryz.checked.prog 11 Tryz.f11 (Rows.OpenSpec.upto Rows.entryDecodesSpec).bare Rows.entryDecodesUptoRow=true:=by kernel_rfl
theorem j8:(fun (P:Program) (f:FuncId) (fn:Func) (s:ChangeSpec) (c:OpenClaim)=>((P.stopKnobs == []):Bool)) Tryz.checked.prog 11 Tryz.f11 (Rows.OpenSpec.upto Rows.entryDecodesSpec).bare Rows.entryDecodesUptoRow=true:=by kernel_rfl
theorem j9:(fun (P:Program) (f:FuncId) (fn:Func) (s:ChangeSpec) (c:OpenClaim)=>((c.inPlace == P.inPlace f):Bool)) Tryz.checked.prog 11 Tryz.f11 (Rows.OpenSpec.upto Rows.entryDecodesSpec).bare Rows.entryDecodesUptoRow=true:=by kernel_rfl
theorem j10:(fun (P:Program) (f:FuncId) (fn:Func) (s:ChangeSpec) (c:OpenClaim)=>((c.unfollowed == P.unfollowed f):Bool)) Tryz.checked.prog 11 Tryz.f11 (Rows.OpenSpec.upto Rows.entryDecodesSpec).bare Rows.entryDecodesUptoRow=true:=by kernel_rfl
theorem j11:(fun (P:Program) (f:FuncId) (fn:Func) (s:ChangeSpec) (c:OpenClaim)=>((c.recurses == P.recurses f):Bool)) Tryz.checked.prog 11 Tryz.f11 (Rows.OpenSpec.upto Rows.entryDecodesSpec).bare Rows.entryDecodesUptoRow=true:=by kernel_rfl
theorem j12:(fun (P:Program) (f:FuncId) (fn:Func) (s:ChangeSpec) (c:OpenClaim)=>((c.named == P.varsNamed f):Bool)) Tryz.checked.prog 11 Tryz.f11 (Rows.OpenSpec.upto Rows.entryDecodesSpec).bare Rows.entryDecodesUptoRow=true:=by kernel_rfl
theorem j13:(fun (P:Program) (f:FuncId) (fn:Func) (s:ChangeSpec) (c:OpenClaim)=>((c.maps == (fn.params.toList++s.plain.varTypes P).any (P.mapsRec ·)):Bool)) Tryz.checked.prog 11 Tryz.f11 (Rows.OpenSpec.upto Rows.entryDecodesSpec).bare Rows.entryDecodesUptoRow=true:=by kernel_rfl
theorem j14:(fun (P:Program) (f:FuncId) (fn:Func) (s:ChangeSpec) (c:OpenClaim)=>((c.ifaces == (fn.params.toList++s.plain.varTypes P).any (P.ifacesRec ·)):Bool)) Tryz.checked.prog 11 Tryz.f11 (Rows.OpenSpec.upto Rows.entryDecodesSpec).bare Rows.entryDecodesUptoRow=true:=by kernel_rfl
theorem j15:(fun (P:Program) (f:FuncId) (fn:Func) (s:ChangeSpec) (c:OpenClaim)=>((c.mapsOut == P.mapsAmong fn.resultTypes.toList):Bool)) Tryz.checked.prog 11 Tryz.f11 (Rows.OpenSpec.upto Rows.entryDecodesSpec).bare Rows.entryDecodesUptoRow=true:=by kernel_rfl
theorem j16:(fun (P:Program) (f:FuncId) (fn:Func) (s:ChangeSpec) (c:OpenClaim)=>((c.loops == (fn.params.toList++s.plain.varTypes P).any (P.loopsFrom ·)):Bool)) Tryz.checked.prog 11 Tryz.f11 (Rows.OpenSpec.upto Rows.entryDecodesSpec).bare Rows.entryDecodesUptoRow=true:=by kernel_rfl
theorem j17:(fun (P:Program) (f:FuncId) (fn:Func) (s:ChangeSpec) (c:OpenClaim)=>((c.wideKeys == (fn.params.toList++s.plain.varTypes P++fn.resultTypes.toList).any (P.wideKeysFrom ·)):Bool)) Tryz.checked.prog 11 Tryz.f11 (Rows.OpenSpec.upto Rows.entryDecodesSpec).bare Rows.entryDecodesUptoRow=true:=by kernel_rfl
theorem j18:(fun (P:Program) (f:FuncId) (fn:Func) (s:ChangeSpec) (c:OpenClaim)=>(s.vars.all (P.varReadable ·):Bool)) Tryz.checked.prog 11 Tryz.f11 (Rows.OpenSpec.upto Rows.entryDecodesSpec).bare Rows.entryDecodesUptoRow=true:=by kernel_rfl
theorem j19:(fun (P:Program) (f:FuncId) (fn:Func) (s:ChangeSpec) (c:OpenClaim)=>(fn.resultTypes.all (fun t=>P.readableRec t && decide (t < P.types.size)):Bool)) Tryz.checked.prog 11 Tryz.f11 (Rows.OpenSpec.upto Rows.entryDecodesSpec).bare Rows.entryDecodesUptoRow=true:=by kernel_rfl
theorem j20:(fun (P:Program) (f:FuncId) (fn:Func) (s:ChangeSpec) (c:OpenClaim)=>((c.ifacesOut == fn.resultTypes.toList.any (P.ifacesRec ·)):Bool)) Tryz.checked.prog 11 Tryz.f11 (Rows.OpenSpec.upto Rows.entryDecodesSpec).bare Rows.entryDecodesUptoRow=true:=by kernel_rfl
theorem j21:(fun (P:Program) (f:FuncId) (fn:Func) (s:ChangeSpec) (c:OpenClaim)=>((c.loopsOut == fn.resultTypes.toList.any (P.loopsFrom ·)):Bool)) Tryz.checked.prog 11 Tryz.f11 (Rows.OpenSpec.upto Rows.entryDecodesSpec).bare Rows.entryDecodesUptoRow=true:=by kernel_rfl
theorem j22:(fun (P:Program) (f:FuncId) (fn:Func) (s:ChangeSpec) (c:OpenClaim)=>((c.plainKeys == P.plainKeys):Bool)) Tryz.checked.prog 11 Tryz.f11 (Rows.OpenSpec.upto Rows.entryDecodesSpec).bare Rows.entryDecodesUptoRow=true:=by kernel_rfl
theorem j23:(fun (P:Program) (f:FuncId) (fn:Func) (s:ChangeSpec) (c:OpenClaim)=>(c.shortTexts.isNone:Bool)) Tryz.checked.prog 11 Tryz.f11 (Rows.OpenSpec.upto Rows.entryDecodesSpec).bare Rows.entryDecodesUptoRow=true:=by kernel_rfl
theorem j24:(fun (P:Program) (f:FuncId) (fn:Func) (s:ChangeSpec) (c:OpenClaim)=>(P.stopsHeard:Bool)) Tryz.checked.prog 11 Tryz.f11 (Rows.OpenSpec.upto Rows.entryDecodesSpec).bare Rows.entryDecodesUptoRow=true:=by kernel_rfl
theorem j25:(fun (P:Program) (f:FuncId) (fn:Func) (s:ChangeSpec) (c:OpenClaim)=>(P.mayEnter:Bool)) Tryz.checked.prog 11 Tryz.f11 (Rows.OpenSpec.upto Rows.entryDecodesSpec).bare Rows.entryDecodesUptoRow=true:=by kernel_rfl
theorem j26:(fun (P:Program) (f:FuncId) (fn:Func) (s:ChangeSpec) (c:OpenClaim)=>((c.lifted == P.liftsFinal):Bool)) Tryz.checked.prog 11 Tryz.f11 (Rows.OpenSpec.upto Rows.entryDecodesSpec).bare Rows.entryDecodesUptoRow=true:=by kernel_rfl
theorem j27:(fun (P:Program) (f:FuncId) (fn:Func) (s:ChangeSpec) (c:OpenClaim)=>((P.make == some c.make):Bool)) Tryz.checked.prog 11 Tryz.f11 (Rows.OpenSpec.upto Rows.entryDecodesSpec).bare Rows.entryDecodesUptoRow=true:=by kernel_rfl
theorem j28:(fun (P:Program) (f:FuncId) (fn:Func) (s:ChangeSpec) (c:OpenClaim)=>((c.kinds == (if c.domain.isEmpty then [] else fn.params.toList.map fun t=>match P.underlying t with | some (.int k)=>some k | _=>none)):Bool)) Tryz.checked.prog 11 Tryz.f11 (Rows.OpenSpec.upto Rows.entryDecodesSpec).bare Rows.entryDecodesUptoRow=true:=by kernel_rfl
theorem j29:(fun (P:Program) (f:FuncId) (fn:Func) (s:ChangeSpec) (c:OpenClaim)=>((c.pinned == c.pinnedBy):Bool)) Tryz.checked.prog 11 Tryz.f11 (Rows.OpenSpec.upto Rows.entryDecodesSpec).bare Rows.entryDecodesUptoRow=true:=by kernel_rfl
theorem j30:(fun (P:Program) (f:FuncId) (fn:Func) (s:ChangeSpec) (c:OpenClaim)=>((c.veiled == (fn.params.toList++s.plain.varTypes P++fn.resultTypes.toList).any (P.veiledRec ·)):Bool)) Tryz.checked.prog 11 Tryz.f11 (Rows.OpenSpec.upto Rows.entryDecodesSpec).bare Rows.entryDecodesUptoRow=true:=by kernel_rfl
theorem j31:(fun (P:Program) (f:FuncId) (fn:Func) (s:ChangeSpec) (c:OpenClaim)=>(c.veiledFits P fn.params.toList (fn.params.toList++s.plain.varTypes P++fn.resultTypes.toList):Bool)) Tryz.checked.prog 11 Tryz.f11 (Rows.OpenSpec.upto Rows.entryDecodesSpec).bare Rows.entryDecodesUptoRow=true:=by kernel_rfl
theorem jand (a b:Bool) (h1:a=true) (h2:b=true):(a && b)=true:=by rw [h1,h2];rfl
theorem closed:joinedFacts Tryz.checked.prog 11 Tryz.f11 (Rows.OpenSpec.upto Rows.entryDecodesSpec).bare Rows.entryDecodesUptoRow=true:=jand _ _ (jand _ _ (jand _ _ (jand _ _ (jand _ _ (jand _ _ (jand _ _ (jand _ _ (jand _ _ (jand _ _ (jand _ _ (jand _ _ (jand _ _ (jand _ _ (jand _ _ (jand _ _ (jand _ _ (jand _ _ (jand _ _ (jand _ _ (jand _ _ (jand _ _ (jand _ _ (jand _ _ (jand _ _ (jand _ _ (jand _ _ (jand _ _ (jand _ _ (jand _ _ (jand _ _ j0 j1) j2) j3) j4) j5) j6) j7) j8) j9) j10) j11) j12) j13) j14) j15) j16) j17) j18) j19) j20) j21) j22) j23) j24) j25) j26) j27) j28) j29) j30) j31
theorem over:Rows.entryDecodesUptoRow.holds Tryz.pinned (Rows.OpenSpec.upto Rows.entryDecodesSpec):=
 OpenClaim.holds_of_cond 11 Tryz.f11 rfl rfl rfl rfl rfl rfl rfl ⟨rfl,rfl,rfl,rfl,rfl⟩ rfl rfl rfl rfl rfl (by kernel_rfl) Tryz.func11 closed
  (of_decide_eq_true (by kernel_rfl)) (by unfold Func.isWrapper;first | (rw [if_pos (by decide +kernel)];kernel_rfl) | (rw [if_neg (by decide +kernel)];exact ⟨rfl,rfl⟩))
  (fun os started H enc _ F=>lifted os started H enc F)
end Go.Proofs.YtpkcbdhjnnnkbaaGreat.lawEntryDecodes
namespace Go.Proofs.YtpkcbdhjnnnkbaaGreat
theorem entryDecodes_upto_holds:Rows.EntryDecodesUptoSaid:=lawEntryDecodes.over
end Go.Proofs.YtpkcbdhjnnnkbaaGreat
