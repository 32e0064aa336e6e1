/- Part 5 of the proof that EntryReads: called with any bytes and any number that hold together at most 1048576 values and letters, the law answers true, and the bytes read afterwards as they read before. -/
import Derived.Test.YtpkcbdhjnnnkbaaGreatMEntryReads4
import Derived.Test.YtpkcbdhjnnnkbaaGreatMEntryReads3
set_option linter.unusedVariables false
set_option linter.unusedSimpArgs false
set_option maxRecDepth 10000
namespace Go.Proofs.YtpkcbdhjnnnkbaaGreat.Abs
open Go
theorem int_bad {s:SB} (hb:s.2=true):intS s=(0,s):=by
 have h:takeS s (gP s).2 true=(false,(s.1,true)):=takeS_no (.inl hb);unfold intS;rw [h];obtain ⟨b,q⟩:=s;simp at hb ⊢;exact hb
theorem int_fine {s:SB} (hb:s.2=false):intS s=(zagI (grpS s).1,(grpS s).2):=by
 obtain ⟨h1,h2,h3,h4⟩:=grpS_P s hb;unfold intS;cases h:rdG s.1 with
 | none=>
  have ht:takeS s (gP s).2 true=(false,(s.1,true)):=takeS_no (.inr (.inl (by rw [gP_no h])));have hz:zagI 0=0:=by decide
  rw [ht,grpS_no h];simp only [hz];simp
 | some p=>
  obtain ⟨u,n⟩:=p;have hl:=gR_len 10 s.1 0 0 u n h;have ht:takeS s (gP s).2 true=(true,(s.1.drop n,false)):=by rw [gP_ok hb h];exact takeS_ok (by rw [hb];simp;omega)
  rw [ht,grpS_ok h,gP_ok hb h,hb];rfl
theorem zag_even {u:Nat} (h:u < 18446744073709551616) (hq:((u:Int).tmod 2 == 0)=true):IntKind.i64.wrap (IntKind.u64.wrap ((u:Int).tdiv 2))=zagI u:=by
 rw [beq_iff_eq,Int.tmod_eq_emod_of_nonneg (by omega)] at hq;rw [Int.tdiv_eq_ediv_of_nonneg (by omega),show (u:Int) / 2=((u / 2:Nat):Int) by omega,wrap_u64n (by omega),wrap_i64 (by omega) (by omega),zagI,if_pos (by omega)]
theorem zag_odd {u:Nat} (h:u < 18446744073709551616) (hq:((u:Int).tmod 2 == 0)=false):IntKind.i64.wrap (IntKind.i64.wrap (0 - IntKind.i64.wrap (IntKind.u64.wrap ((u:Int).tdiv 2))) - 1)=zagI u:=by
 rw [beq_eq_false_iff_ne,ne_eq,Int.tmod_eq_emod_of_nonneg (by omega)] at hq;rw [Int.tdiv_eq_ediv_of_nonneg (by omega),show (u:Int) / 2=((u / 2:Nat):Int) by omega,wrap_u64n (by omega),wrap_i64 (m:=((u / 2:Nat):Int)) (by omega) (by omega),wrap_i64 (m:=0 - ((u / 2:Nat):Int)) (by omega) (by omega),wrap_i64 (by omega) (by omega),zagI,if_neg (by omega)];omega
theorem gR_none {b:List UInt8} {i u:Nat} (h:¬ (i < 10∧i < b.length)):gR (10 - i) b i u=none:=gR_end (by omega)
theorem txt_fail {s:SB} {most:Int} (hx:s.1.length≤4611686018427387904) (h:(cntS s most).2.2=true∨((cntS s most).2.1.length:Int) < (cntS s most).1):txtS s most=([],(s.1,true)):=by
 have hl:=gP_len s;cases hb:s.2 with
 | true=>exact txtS_no (by simp [txtBad,gP_bad hb])
 | false=>
  have hls:leftS s=s.1.length:=by simp [leftS,hb]
  have hl1:=hl.1 hb;refine txtS_no ?_;unfold txtBad;simp only [Bool.or_eq_true,decide_eq_true_eq,beq_iff_eq];rw [hls,wrap_i64 (m:=(s.1.length:Int) - ((gP s).2:Int)) (by omega) (by omega)];cases ht:(takeS s (gP s).2 (rightS (gP s).1 most)).1 with
  | false=>
   have:(gP s).2=0∨rightS (gP s).1 most=false:=by
    by_cases hz:s.2=true∨(gP s).2=0∨rightS (gP s).1 most=false
    ·rcases hz with hz | hz
     ·rw [hb] at hz;cases hz
     ·exact hz
    ·rw [takeS_ok hz] at ht;cases ht
   rcases this with h0 | h0
   ·exact .inr (by omega)
   ·simp only [rightS,Bool.and_eq_false_iff,decide_eq_false_iff_not] at h0;rcases h0 with h0 | h0
    ·exact .inl (.inl (.inl (by omega)))
    ·exact .inl (.inl (.inr (by omega)))
  | true=>
   have hz:¬ (s.2=true∨(gP s).2=0∨rightS (gP s).1 most=false):=fun hz=>by rw [takeS_no hz] at ht;cases ht
   have e:cntS s most=(IntKind.i64.wrap ((gP s).1:Int),(s.1.drop (gP s).2,false)):=by
    unfold cntS;rw [takeS_ok hz];rfl
   rw [e] at h;simp only [Bool.false_eq_true,false_or,List.length_drop] at h;exact .inl (.inr (by omega))
theorem txt_fine {s:SB} {most:Int} (hx:s.1.length≤4611686018427387904) (h:¬ ((cntS s most).2.2=true∨((cntS s most).2.1.length:Int) < (cntS s most).1)) :
    (cntS s most).1=(((gP s).1:Nat):Int)∧(gP s).1≤(cntS s most).2.1.length∧(cntS s most).2.2=false∧txtS s most=((cntS s most).2.1.take (gP s).1,((cntS s most).2.1.drop (gP s).1,false)):=by
  have hl:=gP_len s;have hb:s.2=false:=by
    cases hb:s.2 with
    | false=>rfl
    | true=>rw [cnt_bad hb] at h;exact absurd (.inl hb) h
  have hls:leftS s=s.1.length:=by simp [leftS,hb]
  have hl1:=hl.1 hb;have hz:¬ (s.2=true∨(gP s).2=0∨rightS (gP s).1 most=false):=fun hz=>by
    refine h (.inl ?_);unfold cntS;rw [takeS_no hz]
  have e:cntS s most=(IntKind.i64.wrap ((gP s).1:Int),(s.1.drop (gP s).2,false)):=by
    unfold cntS;rw [takeS_ok hz];rfl
  have hr:rightS (gP s).1 most=true:=by cases hq:rightS (gP s).1 most with | true=>rfl | false=>exact absurd (.inr (.inr hq)) hz
  simp only [rightS,Bool.and_eq_true,decide_eq_true_eq] at hr;rw [e] at h ⊢;simp only [Bool.false_eq_true,false_or,List.length_drop,wrap_i64 (m:=((gP s).1:Int)) (by omega) (by omega)] at h hr ⊢;refine ⟨trivial,by omega,trivial,?_⟩;have hn:¬ (gP s).2=0:=fun e=>hz (.inr (.inl e));have hB:txtBad s most=false:=by
    unfold txtBad;rw [hls,wrap_i64 (m:=(s.1.length:Int) - ((gP s).2:Int)) (by omega) (by omega),wrap_i64 (m:=((gP s).1:Int)) (by omega) (by omega)];simp only [Bool.or_eq_false_iff,decide_eq_false_iff_not,beq_eq_false_iff_ne,ne_eq];omega
  rw [txtS_ok hB,List.drop_drop,List.take_drop]
theorem fn144:FnOk Tryz.prog 144 82 [2] (bodyOf Tryz.f144):=⟨Tryz.f144,Tryz.func144,by kernel_rfl,by decide,by kernel_rfl,by kernel_rfl⟩
theorem s144 (s:SB):MSpec Tryz.prog 144 (fun k=>[.loc k 0]) (srcS s) (srcS (grpS s).2) (.d (.int .u64 ((grpS s).1:Nat))):=by
 refine MSpec.of fn144 (fun _=>by simp) (fun _=>by first | exact srcS_lts _ _ | simp [SV.lts,SV.lt]) (fun _=>by first | trivial | simp [SV.lt,SV.lts]) (by first | rfl | simp [SV.ren,SV.rens]) fun o nk k hkn hM=>?_;refine wr ?_;refine ua ?_;refine u_nil ?_;refine wr ?_;refine ua ?_;refine u_nil ?_;refine WP.seq fun K3 hK3=>?_;refine wr ?_;refine ua ?_;refine u_nil ?_;refine WP.block ?_;refine WP.loopL (ι:=Nat×Nat) (fun ⟨i,u⟩=>⟨al [(0,.loc k 0),(3,.d (.int .u64 (u:Nat))),(4,.d (.int .i64 i))],o,nk⟩) (fun ⟨i,u⟩=>u < 2 ^ (7 * i)∧rdG s.1=gR (10 - i) s.1 i u) (fun ⟨i,u⟩=>10 - i) (fun ⟨i,u⟩ hA=>?_) ⟨0,0⟩ ?_ ?_
 ·
  obtain ⟨hu,hg⟩:=hA;refine WP.seq fun K5 hK5=>?_;refine wr ?_;refine um ?_;refine ub ?_;refine um ?_;apply gT
  ·rfl
  ·intro hg;exact pm
  apply gT
  ·rfl
  ·intro hg;refine o_moveV (v:=.loc _ _) rfl ⟨rfl,rfl,rfl⟩
  apply gT
  ·rfl
  ·intro hg;try simp only [hg,ct];try simp only [hg,ct,Bt]
   refine o_nc rfl hM ⟨rfl,rfl,rfl⟩
  apply gT
  ·rfl
  ·intro hg;try simp only [hg,ct];try simp only [hg,ct,Bt]
   exact pf th63 th52 hM
  apply gT
  ·rfl
  ·intro hg;try simp only [hg,ct];try simp only [hg,ct,Bt]
   exact pl th52 hM
  apply gT
  ·rfl
  ·intro hg;try simp only [hg,ct];try simp only [hg,ct,Bt]
   exact pn th52
  apply gT
  ·rfl
  ·intro hg;try simp only [hg,ct];try simp only [hg,ct,Bt]
   exact pb
  refine uA ?_;refine u_nil ?_;refine wc (fun hc7=>?_) (fun hc7=>?_) <;> try simp only [Q0,Q1,Q2,Q3,Q4,Q5,Q6,Q7,Q8,ge_iff_le,gt_iff_lt] at hc7
  ·
   have hi10:i < 10∧i < s.1.length:=by have hq:=hc7;(try simp at hq);omega
   have hl:=hi10.2;have hga:=gR_at (b:=s.1) (i:=i) (u:=u) hi10.1 hl;have hi9:i≤9:=by omega
   refine WP.skip ?_;refine hK5 _ ?_;refine WP.seq fun K8 hK8=>?_;refine WP.block ?_;refine wr ?_;refine u_step (o_moveV (v:=.loc _ _) rfl ?_);refine u_step (o_nc rfl hM ?_);refine uf th63 th52 hM ?_;refine ul th52 hM ?_;refine um ?_;refine u_step (o_ia_map rfl rfl th52 rfl th5 rfl hl ?_);refine uL th5 ?_;refine ub ?_;refine uc th5 th126 ?_;refine ua ?_;refine u_nil ?_;refine WP.seq fun K10 hK10=>?_;refine wr ?_;refine um ?_;refine ub ?_;refine um ?_;apply gT
   ·rfl
   ·intro hg;refine o_moveV (v:=.loc _ _) rfl ⟨rfl,rfl,rfl⟩
   apply gT
   ·rfl
   ·intro hg;try simp only [hg,ct];try simp only [hg,ct,Bt]
    refine o_nc rfl hM ⟨rfl,rfl,rfl⟩
   apply gT
   ·rfl
   ·intro hg;try simp only [hg,ct];try simp only [hg,ct,Bt]
    exact pf th63 th52 hM
   apply gT
   ·rfl
   ·intro hg;try simp only [hg,ct];try simp only [hg,ct,Bt]
    exact pl th52 hM
   apply gT
   ·rfl
   ·intro hg;exact pm
   apply gT
   ·rfl
   ·intro hg;try simp only [hg,ct];try simp only [hg,ct,Bt]
    refine o_ia_map rfl rfl th52 rfl th5 rfl hl ⟨rfl,rfl,rfl⟩
   apply gT
   ·rfl
   ·intro hg;try simp only [hg,ct];try simp only [hg,ct,Bt]
    exact pL th5
   apply gT
   ·rfl
   ·intro hg;try simp only [hg,ct];try simp only [hg,ct,Bt]
    exact pb
   refine uA ?_;refine um ?_;apply gF
   ·rfl
   ·intro hg;exact pm
   apply gF
   ·rfl
   ·intro hg;try simp only [hg,ct];try simp only [hg,ct,Bt]
    exact pb
   apply gF
   ·rfl
   ·intro hg;try simp only [hg,ct];try simp only [hg,ct,Bt]
    exact pm
   apply u_guard
   ·exact GC.ct _ _
   ·intro hg;refine o_moveV (v:=.loc _ _) rfl ⟨rfl,rfl,rfl⟩
   apply u_guard
   ·exact GC.ct _ _
   ·intro hg;try simp only [hg,ct];try simp only [hg,ct,Bt]
    refine o_nc rfl hM ⟨rfl,rfl,rfl⟩
   apply u_guard
   ·exact GC.ct _ _
   ·intro hg;try simp only [hg,ct];try simp only [hg,ct,Bt]
    exact pf th63 th52 hM
   apply u_guard
   ·exact GC.ct _ _
   ·intro hg;try simp only [hg,ct];try simp only [hg,ct,Bt]
    exact pl th52 hM
   apply u_guard
   ·exact GC.ct _ _
   ·intro hg;exact pm
   apply u_guard
   ·exact GC.ct _ _
   ·intro hg;try simp only [hg,ct];try simp only [hg,ct,Bt]
    refine o_ia_map rfl rfl th52 rfl th5 rfl hl ⟨rfl,rfl,rfl⟩
   apply u_guard
   ·exact GC.ct _ _
   ·intro hg;try simp only [hg,ct];try simp only [hg,ct,Bt]
    exact pL th5
   apply u_guard
   ·exact GC.ct _ _
   ·intro hg;try simp only [hg,ct];try simp only [hg,ct,Bt]
    exact pb
   apply gF
   ·rfl
   ·intro hg;try simp only [hg,ct];try simp only [hg,ct,Bt]
    exact pA
   refine uO ?_;refine u_nil ?_;refine wc (fun hc12=>?_) (fun hc12=>?_) <;> try simp only [Q0,Q1,Q2,Q3,Q4,Q5,Q6,Q7,Q8,ge_iff_le,gt_iff_lt] at hc12
   ·
    have hbad:(i=9∧1 < (s.1[i]).toNat)∨(0 < i∧(s.1[i]).toNat=0):=by
     have hq:=hc12;generalize (s.1[i]).toNat=c at hq ⊢
     (try simp at hq);omega
    have hr:=grpS_no (hg.trans (hga.trans (if_pos hbad)));refine WP.exit ?_;refine hK3 _ ?_;refine wr ?_;refine u_step (o_moveV (v:=.loc _ _) rfl ?_);refine u_step (o_nc rfl hM ?_);refine uf th63 th4 hM ?_;refine u_step0 (g_st rfl rfl rfl th4 rfl hM (by simp) fun o14 hb14 hk14=>?_);refine u_nil ?_;refine wr ?_;refine ua ?_;refine u_nil ?_;refine WP.ret ?_;refine retM_ok rfl ?_ (by omega) (by rw [hr];exact hb14) (fun t ht=>(hk14 t (by omega)));rw [hr];rfl
   ·
    have hbad:¬ ((i=9∧1 < (s.1[i]).toNat)∨(0 < i∧(s.1[i]).toNat=0)):=by
     have hq:=hc12;generalize (s.1[i]).toNat=c at hq ⊢
     (try simp at hq);omega
    refine WP.skip ?_;refine hK10 _ ?_;refine wr ?_;refine um ?_;refine um ?_;refine um ?_;refine ub ?_;refine u_step (o_bin_sh rfl rfl (shG hi9) ?_);refine ub ?_;refine ua ?_;refine u_nil ?_;refine wr ?_;refine u_step (o_moveV (v:=.loc _ _) rfl ?_);refine u_step (o_nc rfl hM ?_);refine uf th63 th52 hM ?_;refine ul th52 hM ?_;refine um ?_;refine u_step (o_ia_map rfl rfl th52 rfl th5 rfl hl ?_);refine uL th5 ?_;refine ub ?_;refine u_nil ?_;refine wc (fun hc18=>?_) (fun hc18=>?_) <;> try simp only [Q0,Q1,Q2,Q3,Q4,Q5,Q6,Q7,Q8,ge_iff_le,gt_iff_lt] at hc18
    ·
     have h128:(s.1[i]).toNat < 128:=by have hq:=hc18;(try simp at hq);omega
     have hr:=grpS_ok (hg.trans (hga.trans ((if_neg hbad).trans (if_pos h128))));have hi1:=wrap_succ (i:=i) (by omega);refine wr ?_;refine u_step (o_moveV (v:=.loc _ _) rfl ?_);refine u_step (o_moveV (v:=.loc _ _) rfl ?_);refine u_step (o_nc rfl hM ?_);refine uf th63 th52 hM ?_;refine ul th52 hM ?_;refine um ?_;refine ub ?_;refine u_step (o_sl_bL (m:=i+1) rfl (congrArg (fun z=>SV.d (.int .i64 z)) hi1) th52 rfl th5 rfl (by omega) ?_);refine u_step (o_nc rfl hM ?_);refine uf th63 th52 hM ?_;refine u_step0 (g_st rfl rfl rfl th52 rfl hM (by simp) fun o20 hb20 hk20=>?_);refine u_nil ?_;refine wr ?_;refine um ?_;refine ua ?_;refine u_nil ?_;refine WP.ret ?_;refine retM_ok rfl ?_ (by omega) (by rw [hr];exact hb20) (fun t ht=>(hk20 t (by omega)));rw [hr];exact congrArg (fun z=>SV.d (.int .u64 z)) (add_step hu hi9 (fun h=>by omega))
    ·
     have h128:¬ (s.1[i]).toNat < 128:=by have hq:=hc18;(try simp at hq);omega
     have hgn:=hga.trans ((if_neg hbad).trans (if_neg h128));refine WP.skip ?_;refine hK8 _ ?_;refine WP.reg tabOk rfl ?_;refine um ?_;refine ub ?_;refine ua ?_;refine u_nil ?_;refine ⟨⟨i+1,u+(s.1[i]).toNat % 128 * 2 ^ (7 * i)⟩,⟨gq_next hu (by omega),hg.trans hgn⟩,by simp only;omega,?_⟩;refine Le.al ?_;simp only [List.forall_mem_cons];refine ⟨rfl,?_,cnt (by omega),by simp⟩;exact congrArg (fun z=>SV.d (.int .u64 z)) (add_step hu hi9 (fun h=>by omega))
  ·
   have hie:¬ (i < 10∧i < s.1.length):=by have hq:=hc7;(try simp at hq);omega
   have hr:=grpS_no (hg.trans (gR_none hie));refine WP.exit ?_;refine hK3 _ ?_;refine wr ?_;refine u_step (o_moveV (v:=.loc _ _) rfl ?_);refine u_step (o_nc rfl hM ?_);refine uf th63 th4 hM ?_;refine u_step0 (g_st rfl rfl rfl th4 rfl hM (by simp) fun o23 hb23 hk23=>?_);refine u_nil ?_;refine wr ?_;refine ua ?_;refine u_nil ?_;refine WP.ret ?_;refine retM_ok rfl ?_ (by omega) (by rw [hr];exact hb23) (fun t ht=>(hk23 t (by omega)));rw [hr];rfl
 ·
  exact ⟨by simp,rfl⟩
 ·
  refine Le.al ?_;simp only [List.forall_mem_cons];exact ⟨rfl,rfl,rfl,by simp⟩
theorem fn94:FnOk Tryz.prog 94 40 [4] (bodyOf Tryz.f94):=⟨Tryz.f94,Tryz.func94,by kernel_rfl,by decide,by kernel_rfl,by kernel_rfl⟩
theorem s94 (s:SB) (most:Int):MSpec Tryz.prog 94 (fun k=>[.loc k 0,.d (.int .i64 most)]) (srcS s) (srcS (cntS s most).2) (.d (.int .i64 (cntS s most).1)):=by
 refine MSpec.of fn94 (fun _=>by simp) (fun _=>by first | exact srcS_lts _ _ | simp [SV.lts,SV.lt]) (fun _=>by first | trivial | simp [SV.lt,SV.lts]) (by first | rfl | simp [SV.ren,SV.rens]) fun o nk k hkn hM=>?_;refine wr ?_;refine ua ?_;refine u_nil ?_;refine WP.seq fun K2 hK2=>?_;refine wr ?_;refine u_step (o_moveV (v:=.loc _ _) rfl ?_);refine u_step (o_nc rfl hM ?_);refine uf th63 th4 hM ?_;refine ul th4 hM ?_;refine u_nil ?_;refine wc (fun hc4=>?_) (fun hc4=>?_) <;> try simp only [Q0,Q1,Q2,Q3,Q4,Q5,Q6,Q7,Q8,ge_iff_le,gt_iff_lt] at hc4
 ·
  have hb:s.2=true:=hc4;have hr:=cnt_bad (most:=most) hb;refine wr ?_;refine ua ?_;refine u_nil ?_;refine WP.ret ?_;refine retM_ok rfl ?_ (by omega) (by rw [hr];exact hM) (fun _ _=>rfl);rw [hr];rfl
 ·
  have hb:s.2=false:=by simpa using hc4
  refine WP.skip ?_;refine hK2 _ ?_;refine wr ?_;refine u_step (o_moveV (v:=.loc _ _) rfl ?_);refine u_step (o_nc rfl hM ?_);refine uf th63 th52 hM ?_;refine ul th52 hM ?_;refine ua ?_;refine u_nil ?_;refine wr ?_;refine u_step (o_moveV (v:=.loc _ _) rfl ?_);refine u_step (g_mcall (s144 s) hM rfl fun o8 hb8 hk8=>?_);refine ua ?_;refine u_nil ?_;refine WP.seq fun K9 hK9=>?_;refine wr ?_;refine u_step (o_moveV (v:=.loc _ _) rfl ?_);refine u_step (o_nc rfl hb8 ?_);refine uf th63 th4 hb8 ?_;refine ul th4 hb8 ?_;refine um ?_;apply gF
  ·rfl
  ·intro hg;exact pm
  apply gF
  ·rfl
  ·intro hg;try simp only [hg,ct];try simp only [hg,ct,Bt]
   exact pb
  refine uO ?_;refine um ?_;apply gF
  ·rfl
  ·intro hg;exact pm
  apply gF
  ·rfl
  ·intro hg;try simp only [hg,ct];try simp only [hg,ct,Bt]
   exact pc th126 th3
  apply gF
  ·rfl
  ·intro hg;exact pm
  apply gF
  ·rfl
  ·intro hg;try simp only [hg,ct];try simp only [hg,ct,Bt]
   exact pb
  refine uO ?_;refine u_nil ?_;refine wc (fun hc11=>?_) (fun hc11=>?_) <;> try simp only [Q0,Q1,Q2,Q3,Q4,Q5,Q6,Q7,Q8,ge_iff_le,gt_iff_lt] at hc11
  ·
   have hz:(grpS s).2.2=true∨4611686018427387904 < ((grpS s).1:Int)∨most < IntKind.i64.wrap ((grpS s).1:Int):=by have hq:=hc11;simp [or_assoc] at hq;exact hq
   have hr:=cnt_fail hb hz;refine wr ?_;refine u_step (o_moveV (v:=.loc _ _) rfl ?_);refine u_step (o_moveV (v:=.loc _ _) rfl ?_);refine um ?_;refine u_step (o_nc rfl hb8 ?_);refine uf th63 th52 hb8 ?_;refine u_step0 (g_st rfl rfl rfl th52 rfl hb8 (by simp) fun o13 hb13 hk13=>?_);refine u_step (o_nc rfl hb13 ?_);refine uf th63 th4 hb13 ?_;refine u_step0 (g_st rfl rfl rfl th4 rfl hb13 (by simp) fun o14 hb14 hk14=>?_);refine u_nil ?_;refine wr ?_;refine ua ?_;refine u_nil ?_;refine WP.ret ?_;refine retM_ok rfl ?_ (by omega) (by rw [hr];exact hb14) (fun t ht=>(hk14 t (by omega)).trans ((hk13 t (by omega)).trans ((hk8 t (by omega)))));rw [hr];rfl
  ·
   have hz:¬ ((grpS s).2.2=true∨4611686018427387904 < ((grpS s).1:Int)∨most < IntKind.i64.wrap ((grpS s).1:Int)):=by have hq:=hc11;simp at hq ⊢;grind
   have hr:=cnt_fine hb hz;refine WP.skip ?_;refine hK9 _ ?_;refine wr ?_;refine um ?_;refine uc th126 th3 ?_;refine ua ?_;refine u_nil ?_;refine WP.ret ?_;refine retM_ok rfl ?_ (by omega) (by rw [hr];exact hb8) (fun t ht=>(hk8 t (by omega)));rw [hr];rfl
theorem fn171:FnOk Tryz.prog 171 21 [2] (bodyOf Tryz.f171):=⟨Tryz.f171,Tryz.func171,by kernel_rfl,by decide,by kernel_rfl,by kernel_rfl⟩
theorem s171 (s:SB):MSpec Tryz.prog 171 (fun k=>[.loc k 0]) (srcS s) (srcS (intS s).2) (.d (.int .i64 (intS s).1)):=by
 refine MSpec.of fn171 (fun _=>by simp) (fun _=>by first | exact srcS_lts _ _ | simp [SV.lts,SV.lt]) (fun _=>by first | trivial | simp [SV.lt,SV.lts]) (by first | rfl | simp [SV.ren,SV.rens]) fun o nk k hkn hM=>?_;refine wr ?_;refine ua ?_;refine u_nil ?_;refine WP.seq fun K2 hK2=>?_;refine wr ?_;refine u_step (o_moveV (v:=.loc _ _) rfl ?_);refine u_step (o_nc rfl hM ?_);refine uf th63 th4 hM ?_;refine ul th4 hM ?_;refine u_nil ?_;refine wc (fun hc4=>?_) (fun hc4=>?_) <;> try simp only [Q0,Q1,Q2,Q3,Q4,Q5,Q6,Q7,Q8,ge_iff_le,gt_iff_lt] at hc4
 ·
  have hb:s.2=true:=hc4;have hr:=int_bad hb;refine wr ?_;refine ua ?_;refine u_nil ?_;refine WP.ret ?_;refine retM_ok rfl ?_ (by omega) (by rw [hr];exact hM) (fun _ _=>rfl);rw [hr];rfl
 ·
  have hb:s.2=false:=by simpa using hc4
  have hr:=int_fine hb;have hv:=(grpS_P s hb).2.2.2;refine WP.skip ?_;refine hK2 _ ?_;refine wr ?_;refine u_step (o_moveV (v:=.loc _ _) rfl ?_);refine u_step (g_mcall (s144 s) hM rfl fun o7 hb7 hk7=>?_);refine ua ?_;refine u_nil ?_;refine WP.seq fun K8 hK8=>?_;refine wr ?_;refine um ?_;refine ub ?_;refine ub ?_;refine u_nil ?_;refine wc (fun hc10=>?_) (fun hc10=>?_) <;> try simp only [Q0,Q1,Q2,Q3,Q4,Q5,Q6,Q7,Q8,ge_iff_le,gt_iff_lt] at hc10
  ·
   refine wr ?_;refine um ?_;refine ub ?_;refine uc th126 th3 ?_;refine ua ?_;refine u_nil ?_;refine WP.ret ?_;refine retM_ok rfl ?_ (by omega) (by rw [hr];exact hb7) (fun t ht=>(hk7 t (by omega)));rw [hr];exact congrArg (fun z=>SV.d (.int .i64 z)) (zag_even hv hc10)
  ·
   refine WP.skip ?_;refine hK8 _ ?_;refine wr ?_;refine um ?_;refine ub ?_;refine uc th126 th3 ?_;refine u_step (o_un rfl rfl ?_);refine ub ?_;refine ua ?_;refine u_nil ?_;refine WP.ret ?_;refine retM_ok rfl ?_ (by omega) (by rw [hr];exact hb7) (fun t ht=>(hk7 t (by omega)));rw [hr];exact congrArg (fun z=>SV.d (.int .i64 z)) (zag_odd hv hc10)
theorem fn96:FnOk Tryz.prog 96 52 [4] (bodyOf Tryz.f96):=⟨Tryz.f96,Tryz.func96,by kernel_rfl,by decide,by kernel_rfl,by kernel_rfl⟩
theorem s96 (s:SB) (most:Int) (hx:s.1.length≤4611686018427387904):MSpec Tryz.prog 96 (fun k=>[.loc k 0,.d (.int .i64 most)]) (srcS s) (srcS (txtS s most).2) (.d (.str (txtS s most).1)):=by
 refine MSpec.of fn96 (fun _=>by simp) (fun _=>by first | exact srcS_lts _ _ | simp [SV.lts,SV.lt]) (fun _=>by first | trivial | simp [SV.lt,SV.lts]) (by first | rfl | simp [SV.ren,SV.rens]) fun o nk k hkn hM=>?_;refine wr ?_;refine u_step (o_assign (show _=SV.d (.str []) from rfl) ?_);refine u_nil ?_;refine wr ?_;refine u_step (o_moveV (v:=.loc _ _) rfl ?_);refine u_step (o_nc rfl hM ?_);refine uf th63 th52 hM ?_;refine ul th52 hM ?_;refine ua ?_;refine u_nil ?_;refine wr ?_;refine u_step (o_moveV (v:=.loc _ _) rfl ?_);refine um ?_;refine u_step (g_mcall (s94 s most) hM rfl fun o4 hb4 hk4=>?_);refine ua ?_;refine u_nil ?_;refine WP.seq fun K5 hK5=>?_;refine wr ?_;refine u_step (o_moveV (v:=.loc _ _) rfl ?_);refine u_step (o_nc rfl hb4 ?_);refine uf th63 th4 hb4 ?_;refine ul th4 hb4 ?_;refine um ?_;apply gF
 ·rfl
 ·intro hg;exact pm
 apply gF
 ·rfl
 ·intro hg;refine o_moveV (v:=.loc _ _) rfl ⟨rfl,rfl,rfl⟩
 apply gF
 ·rfl
 ·intro hg;try simp only [hg,ct];try simp only [hg,ct,Bt]
  refine o_nc rfl hb4 ⟨rfl,rfl,rfl⟩
 apply gF
 ·rfl
 ·intro hg;try simp only [hg,ct];try simp only [hg,ct,Bt]
  exact pf th63 th52 hb4
 apply gF
 ·rfl
 ·intro hg;try simp only [hg,ct];try simp only [hg,ct,Bt]
  exact pl th52 hb4
 apply gF
 ·rfl
 ·intro hg;try simp only [hg,ct];try simp only [hg,ct,Bt]
  exact pn th52
 apply gF
 ·rfl
 ·intro hg;try simp only [hg,ct];try simp only [hg,ct,Bt]
  exact pb
 refine uO ?_;refine u_nil ?_;refine wc (fun hc7=>?_) (fun hc7=>?_) <;> try simp only [Q0,Q1,Q2,Q3,Q4,Q5,Q6,Q7,Q8,ge_iff_le,gt_iff_lt] at hc7
 ·
  have hz:(cntS s most).2.2=true∨((cntS s most).2.1.length:Int) < (cntS s most).1:=by have hq:=hc7;simp at hq;exact hq
  have hr:=txt_fail hx hz;refine wr ?_;refine u_step (o_moveV (v:=.loc _ _) rfl ?_);refine u_step (o_moveV (v:=.loc _ _) rfl ?_);refine um ?_;refine u_step (o_nc rfl hb4 ?_);refine uf th63 th52 hb4 ?_;refine u_step0 (g_st rfl rfl rfl th52 rfl hb4 (by simp) fun o9 hb9 hk9=>?_);refine u_step (o_nc rfl hb9 ?_);refine uf th63 th4 hb9 ?_;refine u_step0 (g_st rfl rfl rfl th4 rfl hb9 (by simp) fun o10 hb10 hk10=>?_);refine u_nil ?_;refine wr ?_;refine u_step (o_assign (show _=SV.d (.str []) from rfl) ?_);refine u_nil ?_;refine WP.ret ?_;refine retM_ok rfl ?_ (by omega) (by rw [hr];exact hb10) (fun t ht=>(hk10 t (by omega)).trans ((hk9 t (by omega)).trans ((hk4 t (by omega)))));rw [hr];rfl
 ·
  have hz:¬ ((cntS s most).2.2=true∨((cntS s most).2.1.length:Int) < (cntS s most).1):=by have hq:=hc7;simp at hq;simp;omega
  have hf:=txt_fine hx hz;have hb:=hf.2.2.1;have hr:=hf.2.2.2;have hn:=congrArg (fun z=>SV.d (.int .i64 z)) hf.1;refine WP.skip ?_;refine hK5 _ ?_;refine wr ?_;refine u_step (o_moveV (v:=.loc _ _) rfl ?_);refine u_step (o_nc rfl hb4 ?_);refine uf th63 th52 hb4 ?_;refine ul th52 hb4 ?_;refine um ?_;refine u_step (o_sl_bH (p:=(gP s).1) rfl hn th52 rfl th5 rfl hf.2.1 ?_);refine u_step (o_cv_sb rfl th52 rfl th5 rfl th9 rfl ?_);refine ua ?_;refine u_nil ?_;refine wr ?_;refine u_step (o_moveV (v:=.loc _ _) rfl ?_);refine u_step (o_moveV (v:=.loc _ _) rfl ?_);refine u_step (o_nc rfl hb4 ?_);refine uf th63 th52 hb4 ?_;refine ul th52 hb4 ?_;refine um ?_;refine u_step (o_sl_bL (m:=(gP s).1) rfl hn th52 rfl th5 rfl hf.2.1 ?_);refine u_step (o_nc rfl hb4 ?_);refine uf th63 th52 hb4 ?_;refine u_step0 (g_st rfl rfl rfl th52 rfl hb4 (by simp) fun o14 hb14 hk14=>?_);refine u_nil ?_;refine wr ?_;refine um ?_;refine ua ?_;refine u_nil ?_;refine WP.ret ?_;refine retM_ok rfl ?_ (by omega) (by rw [hr];have h:=hb14;simp only [srcS,hb] at h;exact h) (fun t ht=>(hk14 t (by omega)).trans ((hk4 t (by omega))));rw [hr];rfl
end Go.Proofs.YtpkcbdhjnnnkbaaGreat.Abs

set_option linter.unusedVariables false
set_option linter.unusedSimpArgs false
set_option maxRecDepth 10000
namespace Go.Proofs.YtpkcbdhjnnnkbaaGreat.Abs
open Go
def rdIs (rd:SB→Val×SB) (doc:Bool):Nat→SB→List Val→List Str→List Val×List Str×SB
 | 0,s,xs,ns=>(xs,ns,s)
 | n+1,s,xs,ns=>if s.2=true then (xs,ns,s) else
  rdIs rd doc n (rd (if doc=true then (txtS s 32).2 else s)).2 (xs++[(rd (if doc=true then (txtS s 32).2 else s)).1]) (if doc=true then ns++[(txtS s 32).1] else ns)
def rdV:Nat→SB→Val×SB
 | 0,s=>(.mk (rdByte s).1 0 [] [] [],((rdByte s).2.1,true))
 | d+1,s=>
  if (rdByte s).1=1 then (.mk (rdByte s).1 0 [] [] [],(rdByte s).2)
  else if (rdByte s).1=2 then (.mk (rdByte s).1 (rdByte (rdByte s).2).1 [] [] [],(rdByte (rdByte s).2).2)
  else if (rdByte s).1=3 then (.mk (rdByte s).1 (intS (rdByte s).2).1 [] [] [],(intS (rdByte s).2).2)
  else if (rdByte s).1=4∨(rdByte s).1=5 then (.mk (rdByte s).1 0 (txtS (rdByte s).2 4096).1 [] [],(txtS (rdByte s).2 4096).2)
  else if (rdByte s).1=6∨(rdByte s).1=7 then
   (.mk (rdByte s).1 0 [] (rdIs (rdV d) (decide ((rdByte s).1=7)) (cntS (rdByte s).2 4096).1.toNat (cntS (rdByte s).2 4096).2 [] []).1 (rdIs (rdV d) (decide ((rdByte s).1=7)) (cntS (rdByte s).2 4096).1.toNat (cntS (rdByte s).2 4096).2 [] []).2.1,
    (rdIs (rdV d) (decide ((rdByte s).1=7)) (cntS (rdByte s).2 4096).1.toNat (cntS (rdByte s).2 4096).2 [] []).2.2)
  else (.mk (rdByte s).1 0 [] [] [],((rdByte s).2.1,true))
theorem byte_le (s:SB):(rdByte s).2.1.length≤s.1.length:=by unfold rdByte;split <;> simp
theorem take_le (s:SB) (n:Nat) (r:Bool):(takeS s n r).2.1.length≤s.1.length:=by unfold takeS;split <;> simp
theorem cnt_le (s:SB) (m:Int):(cntS s m).2.1.length≤s.1.length:=take_le _ _ _
theorem int_le (s:SB):(intS s).2.1.length≤s.1.length:=take_le _ _ _
theorem txt_le (s:SB) (m:Int):(txtS s m).2.1.length≤s.1.length:=by unfold txtS;split <;> simp
theorem rdIs_le {rd:SB→Val×SB} (hrd:∀ s,(rd s).2.1.length≤s.1.length) (doc:Bool):∀ (n:Nat) (s:SB) (xs:List Val) (ns:List Str),(rdIs rd doc n s xs ns).2.2.1.length≤s.1.length
 | 0,s,xs,ns=>Nat.le_refl _
 | n+1,s,xs,ns=>by
  simp only [rdIs];split
  ·exact Nat.le_refl _
  ·refine Nat.le_trans (rdIs_le hrd doc n _ _ _) (Nat.le_trans (hrd _) ?_);split
   ·exact txt_le _ _
   ·exact Nat.le_refl _
theorem rdV_le:∀ (d:Nat) (s:SB),(rdV d s).2.1.length≤s.1.length
 | 0,s=>byte_le s
 | d+1,s=>by
  have hb:=byte_le s;simp only [rdV]
  repeat' split
  ·exact hb
  ·exact Nat.le_trans (byte_le _) hb
  ·exact Nat.le_trans (int_le _) hb
  ·exact Nat.le_trans (txt_le _ _) hb
  ·exact Nat.le_trans (rdIs_le (rdV_le d) _ _ _ _ _) (Nat.le_trans (cnt_le _ _) hb)
  ·exact hb
theorem leV0 (k i:Int) (t:Str):D.le (.agg [.int .i64 k,.int .i64 i,.str t,.nil,.nil]) (encV (.mk k i t [] [])):=by simp [encV,D.le,D.les,encVs]
theorem fn151:FnOkC Tryz.prog 151 45 [.cell 4 27] (bodyOf Tryz.f151):=⟨Tryz.f151,Tryz.func151,by kernel_rfl,by decide,by kernel_rfl,by kernel_rfl⟩
theorem s151 (d:Nat) (hdb:d≤8) (s:SB) (hx:s.1.length≤4611686018427387904) (hit:∀ e,d=e+1→∀ (kd:Int) (s:SB),s.1.length≤4611686018427387904→MSpec Tryz.prog 180 (fun k=>[.loc k 0,.d (.agg [.int .i64 kd,.int .i64 0,.str [],.nil,.nil]),.d (.int .i64 e)]) (srcS s) (srcS (rdIs (rdV e) (decide (kd=7)) (cntS s 4096).1.toNat (cntS s 4096).2 [] []).2.2) (.d (encV (.mk kd 0 [] (rdIs (rdV e) (decide (kd=7)) (cntS s 4096).1.toNat (cntS s 4096).2 [] []).1 (rdIs (rdV e) (decide (kd=7)) (cntS s 4096).1.toNat (cntS s 4096).2 [] []).2.1)))):MSpec Tryz.prog 151 (fun k=>[.loc k 0,.d (.int .i64 d)]) (srcS s) (srcS (rdV d s).2) (.d (encV (rdV d s).1)):=by
 have hb1:=byte_le s;refine MSpec.ofC tabOk fn151 (fun _=>by simp) (fun _=>by first | exact srcS_lts _ _ | simp [SV.lts,SV.lt]) fun o nk k hkn hM=>?_;refine wr ?_;refine u_step (g_alloc th27 rfl fun o2 hb2 hk2=>?_);have hM_2:=(hk2 _ (by omega)).trans hM;refine u_nil ?_;refine wr ?_;refine u_step (o_moveV (v:=.loc _ _) rfl ?_);refine u_step (g_mcall (s106 s) hM_2 rfl fun o4 hb4 hk4=>?_);have hb2_4:=(hk4 _ (by omega)).trans hb2;refine u_step (o_bu rfl th27 rfl rfl ?_);refine u_step (g_alloc th27 rfl fun o5 hb5 hk5=>?_);have hb2_5:=(hk5 _ (by omega)).trans hb2_4;have hb4_5:=(hk5 _ (by omega)).trans hb4;refine u_step0 (g_sta rfl rfl th27 rfl hb5 (by first | (simp;done) | (simp [D.leaves,D.width,valCells];done) | decide) fun o6 hb6 hk6=>?_);have hb2_6:=(hk6 _ (by omega)).trans hb2_5;have hb4_6:=(hk6 _ (by omega)).trans hb4_5;refine u_nil ?_;refine WP.seq fun K7 hK7=>?_;refine wr ?_;refine um ?_;refine ub ?_;refine u_nil ?_;refine wc (fun hc9=>?_) (fun hc9=>?_) <;> try simp only [Q0,Q1,Q2,Q3,Q4,Q5,Q6,Q7,Q8,ge_iff_le,gt_iff_lt] at hc9
 ·
  have hd:d=0:=by have hq:=hc9;(try simp at hq);omega
  subst hd;refine wr ?_;refine u_step (o_moveV (v:=.loc _ _) rfl ?_);refine u_step (g_mcall (s109 _) hb4_6 rfl fun o11 hb11 hk11=>?_);have hb2_11:=(hk11 _ (by omega)).trans hb2_6;have hb6_11:=(hk11 _ (by omega)).trans hb6;refine u_nil ?_;refine wr ?_;refine ug th27 hb6_11 ?_;refine u_step0 (g_sta rfl rfl th27 rfl hb2_11 (by first | (simp;done) | (simp [D.leaves,D.width,valCells];done) | decide) fun o13 hb13 hk13=>?_);have hb6_13:=(hk13 _ (by omega)).trans hb6_11;have hb11_13:=(hk13 _ (by omega)).trans hb11;refine u_nil ?_;refine WP.ret ?_;refine retCM_ok (resis_agg rfl th27 rfl hb13 rfl rfl rfl) ?_ (by omega) hb11_13 (fun t ht=>(hk13 t (by omega)).trans ((hk11 t (by omega)).trans ((hk6 t (by omega)).trans ((hk5 t (by omega)).trans ((hk4 t (by omega)).trans ((hk2 t (by omega))))))));exact leV0 _ _ _
 ·
  obtain ⟨e,he⟩:∃ e,d=e+1:=⟨d - 1,by have hq:=hc9;(try simp at hq);omega⟩;have hde:IntKind.i64.wrap ((d:Int) - 1)=(e:Int):=by rw [wrap_i64 (by omega) (by omega)];omega
  refine WP.skip ?_;refine hK7 _ ?_;refine WP.seq fun K14 hK14=>?_;refine wr ?_;refine uf th27 th3 hb6 ?_;refine ul th3 hb6 ?_;refine u_nil ?_;refine WP.block ?_;refine wr ?_;refine ub ?_;refine ua ?_;refine u_nil ?_;refine wc (fun hc17=>?_) (fun hc17=>?_) <;> try simp only [Q0,Q1,Q2,Q3,Q4,Q5,Q6,Q7,Q8,ge_iff_le,gt_iff_lt] at hc17
  ·
   have g1:(rdByte s).1=1:=by simpa using hc17
   have hr:rdV d s=(.mk (rdByte s).1 0 [] [] [],(rdByte s).2):=by rw [he];simp only [rdV];rw [if_pos g1]
   refine WP.skip ?_;refine hK14 _ ?_;refine wr ?_;refine ug th27 hb6 ?_;refine u_step0 (g_sta rfl rfl th27 rfl hb2_6 (by first | (simp;done) | (simp [D.leaves,D.width,valCells];done) | decide) fun o19 hb19 hk19=>?_);have hb4_19:=(hk19 _ (by omega)).trans hb4_6;have hb6_19:=(hk19 _ (by omega)).trans hb6;refine u_nil ?_;refine WP.ret ?_;refine retCM_ok (resis_agg rfl th27 rfl hb19 rfl rfl rfl) ?_ (by omega) (by rw [hr];exact hb4_19) (fun t ht=>(hk19 t (by omega)).trans ((hk6 t (by omega)).trans ((hk5 t (by omega)).trans ((hk4 t (by omega)).trans ((hk2 t (by omega)))))));rw [hr];exact leV0 _ _ _
  ·
   have g1:¬ (rdByte s).1=1:=by simpa using hc17
   refine wr ?_;refine ub ?_;refine ua ?_;refine u_nil ?_;refine wc (fun hc21=>?_) (fun hc21=>?_) <;> try simp only [Q0,Q1,Q2,Q3,Q4,Q5,Q6,Q7,Q8,ge_iff_le,gt_iff_lt] at hc21
   ·
    have g2:(rdByte s).1=2:=by simpa using hc21
    have hr:rdV d s=(.mk (rdByte s).1 (rdByte (rdByte s).2).1 [] [] [],(rdByte (rdByte s).2).2):=by rw [he];simp only [rdV];rw [if_neg g1,if_pos g2]
    refine WP.reg tabOk rfl ?_;refine u_step (o_moveV (v:=.loc _ _) rfl ?_);refine u_step (g_mcall (s106 _) hb4_6 rfl fun o22 hb22 hk22=>?_);have hb2_22:=(hk22 _ (by omega)).trans hb2_6;have hb6_22:=(hk22 _ (by omega)).trans hb6;refine uf th27 th3 hb6_22 ?_;refine u_step0 (g_st rfl rfl rfl th3 rfl hb6_22 (by first | (simp;done) | (simp [D.leaves,D.width];done) | decide) fun o23 hb23 hk23=>?_);have hb2_23:=(hk23 _ (by omega)).trans hb2_22;have hb22_23:=(hk23 _ (by omega)).trans hb22;refine u_nil ?_;refine hK14 _ ?_;refine wr ?_;refine ug th27 hb23 ?_;refine u_step0 (g_sta rfl rfl th27 rfl hb2_23 (by first | (simp;done) | (simp [D.leaves,D.width,valCells];done) | decide) fun o25 hb25 hk25=>?_);have hb22_25:=(hk25 _ (by omega)).trans hb22_23;have hb23_25:=(hk25 _ (by omega)).trans hb23;refine u_nil ?_;refine WP.ret ?_;refine retCM_ok (resis_agg rfl th27 rfl hb25 rfl rfl rfl) ?_ (by omega) (by rw [hr];exact hb22_25) (fun t ht=>(hk25 t (by omega)).trans ((hk23 t (by omega)).trans ((hk22 t (by omega)).trans ((hk6 t (by omega)).trans ((hk5 t (by omega)).trans ((hk4 t (by omega)).trans ((hk2 t (by omega)))))))));rw [hr];exact leV0 _ _ _
   ·
    have g2:¬ (rdByte s).1=2:=by simpa using hc21
    refine wr ?_;refine ub ?_;refine ua ?_;refine u_nil ?_;refine wc (fun hc27=>?_) (fun hc27=>?_) <;> try simp only [Q0,Q1,Q2,Q3,Q4,Q5,Q6,Q7,Q8,ge_iff_le,gt_iff_lt] at hc27
    ·
     have g3:(rdByte s).1=3:=by simpa using hc27
     have hr:rdV d s=(.mk (rdByte s).1 (intS (rdByte s).2).1 [] [] [],(intS (rdByte s).2).2):=by rw [he];simp only [rdV];rw [if_neg g1,if_neg g2,if_pos g3]
     refine WP.reg tabOk rfl ?_;refine u_step (o_moveV (v:=.loc _ _) rfl ?_);refine u_step (g_mcall (s179 _) hb4_6 rfl fun o28 hb28 hk28=>?_);have hb2_28:=(hk28 _ (by omega)).trans hb2_6;have hb6_28:=(hk28 _ (by omega)).trans hb6;refine uf th27 th3 hb6_28 ?_;refine u_step0 (g_st rfl rfl rfl th3 rfl hb6_28 (by first | (simp;done) | (simp [D.leaves,D.width];done) | decide) fun o29 hb29 hk29=>?_);have hb2_29:=(hk29 _ (by omega)).trans hb2_28;have hb28_29:=(hk29 _ (by omega)).trans hb28;refine u_nil ?_;refine hK14 _ ?_;refine wr ?_;refine ug th27 hb29 ?_;refine u_step0 (g_sta rfl rfl th27 rfl hb2_29 (by first | (simp;done) | (simp [D.leaves,D.width,valCells];done) | decide) fun o31 hb31 hk31=>?_);have hb28_31:=(hk31 _ (by omega)).trans hb28_29;have hb29_31:=(hk31 _ (by omega)).trans hb29;refine u_nil ?_;refine WP.ret ?_;refine retCM_ok (resis_agg rfl th27 rfl hb31 rfl rfl rfl) ?_ (by omega) (by rw [hr];exact hb28_31) (fun t ht=>(hk31 t (by omega)).trans ((hk29 t (by omega)).trans ((hk28 t (by omega)).trans ((hk6 t (by omega)).trans ((hk5 t (by omega)).trans ((hk4 t (by omega)).trans ((hk2 t (by omega)))))))));rw [hr];exact leV0 _ _ _
    ·
     have g3:¬ (rdByte s).1=3:=by simpa using hc27
     refine WP.seqJ ⟨al [(0,.loc k 0),(1,.d (.int .i64 d)),(4,.loc nk 0),(5,.loc (nk+1) 0),(15,.d (.int .i64 (rdByte s).1)),(30,.d (.bool (decide ((rdByte s).1=4∨(rdByte s).1=5))))],o6,((nk+1)+1)⟩ ?_ ?_
     ·
      refine wr ?_;refine ub ?_;refine ua ?_;refine u_nil ?_;refine wc (fun hc33=>?_) (fun hc33=>?_) <;> try simp only [Q0,Q1,Q2,Q3,Q4,Q5,Q6,Q7,Q8,ge_iff_le,gt_iff_lt] at hc33
      ·
       try (have g4:(rdByte s).1=4∨(rdByte s).1=5:=hc33)
       try (have hr:rdV d s=(.mk (rdByte s).1 0 (txtS (rdByte s).2 4096).1 [] [],(txtS (rdByte s).2 4096).2):=by rw [he];simp only [rdV];rw [if_neg g1,if_neg g2,if_neg g3,if_pos g4])
       refine WP.skip ?_;refine Le.al ?_;simp only [List.forall_mem_cons];have hl2:=hc33;refine ⟨rfl,rfl,rfl,rfl,rfl,?_,by simp⟩;refine congrArg (fun z=>SV.d (.bool z)) ?_;rw [Bool.eq_iff_iff,decide_eq_true_iff];simp at hl2 ⊢;omega
      ·
       try (have g4:¬ ((rdByte s).1=4∨(rdByte s).1=5):=hc33)
       refine WP.reg tabOk rfl ?_;refine ub ?_;refine ua ?_;refine u_nil ?_;refine Le.al ?_;simp only [List.forall_mem_cons];have hl2:=hc33;refine ⟨rfl,rfl,rfl,rfl,rfl,?_,by simp⟩;refine congrArg (fun z=>SV.d (.bool z)) ?_;rw [Bool.eq_iff_iff,decide_eq_true_iff];simp at hl2 ⊢;omega
     ·
      refine wc (fun hc34=>?_) (fun hc34=>?_) <;> try simp only [Q0,Q1,Q2,Q3,Q4,Q5,Q6,Q7,Q8,ge_iff_le,gt_iff_lt] at hc34
      ·
       try (have g4:(rdByte s).1=4∨(rdByte s).1=5:=hc34)
       try (have hr:rdV d s=(.mk (rdByte s).1 0 (txtS (rdByte s).2 4096).1 [] [],(txtS (rdByte s).2 4096).2):=by rw [he];simp only [rdV];rw [if_neg g1,if_neg g2,if_neg g3,if_pos g4])
       refine WP.reg tabOk rfl ?_;refine u_step (o_moveV (v:=.loc _ _) rfl ?_);refine u_step (g_mcall (s107 _ _ (by omega)) hb4_6 rfl fun o35 hb35 hk35=>?_);have hb2_35:=(hk35 _ (by omega)).trans hb2_6;have hb6_35:=(hk35 _ (by omega)).trans hb6;refine uf th27 th9 hb6_35 ?_;refine u_step0 (g_st rfl rfl rfl th9 rfl hb6_35 (by first | (simp;done) | (simp [D.leaves,D.width];done) | decide) fun o36 hb36 hk36=>?_);have hb2_36:=(hk36 _ (by omega)).trans hb2_35;have hb35_36:=(hk36 _ (by omega)).trans hb35;refine u_nil ?_;refine hK14 _ ?_;refine wr ?_;refine ug th27 hb36 ?_;refine u_step0 (g_sta rfl rfl th27 rfl hb2_36 (by first | (simp;done) | (simp [D.leaves,D.width,valCells];done) | decide) fun o38 hb38 hk38=>?_);have hb35_38:=(hk38 _ (by omega)).trans hb35_36;have hb36_38:=(hk38 _ (by omega)).trans hb36;refine u_nil ?_;refine WP.ret ?_;refine retCM_ok (resis_agg rfl th27 rfl hb38 rfl rfl rfl) ?_ (by omega) (by rw [hr];exact hb35_38) (fun t ht=>(hk38 t (by omega)).trans ((hk36 t (by omega)).trans ((hk35 t (by omega)).trans ((hk6 t (by omega)).trans ((hk5 t (by omega)).trans ((hk4 t (by omega)).trans ((hk2 t (by omega)))))))));rw [hr];exact leV0 _ _ _
      ·
       try (have g4:¬ ((rdByte s).1=4∨(rdByte s).1=5):=hc34)
       refine WP.seqJ ⟨al [(0,.loc k 0),(1,.d (.int .i64 d)),(4,.loc nk 0),(5,.loc (nk+1) 0),(15,.d (.int .i64 (rdByte s).1)),(36,.d (.bool (decide ((rdByte s).1=6∨(rdByte s).1=7))))],o6,((nk+1)+1)⟩ ?_ ?_
       ·
        refine wr ?_;refine ub ?_;refine ua ?_;refine u_nil ?_;refine wc (fun hc40=>?_) (fun hc40=>?_) <;> try simp only [Q0,Q1,Q2,Q3,Q4,Q5,Q6,Q7,Q8,ge_iff_le,gt_iff_lt] at hc40
        ·
         try (have g6:(rdByte s).1=6∨(rdByte s).1=7:=hc40)
         try (have hr:rdV d s=(.mk (rdByte s).1 0 [] (rdIs (rdV e) (decide ((rdByte s).1=7)) (cntS (rdByte s).2 4096).1.toNat (cntS (rdByte s).2 4096).2 [] []).1 (rdIs (rdV e) (decide ((rdByte s).1=7)) (cntS (rdByte s).2 4096).1.toNat (cntS (rdByte s).2 4096).2 [] []).2.1,(rdIs (rdV e) (decide ((rdByte s).1=7)) (cntS (rdByte s).2 4096).1.toNat (cntS (rdByte s).2 4096).2 [] []).2.2):=by rw [he];simp only [rdV];rw [if_neg g1,if_neg g2,if_neg g3,if_neg g4,if_pos g6])
         refine WP.skip ?_;refine Le.al ?_;simp only [List.forall_mem_cons];have hl2:=hc40;refine ⟨rfl,rfl,rfl,rfl,rfl,?_,by simp⟩;refine congrArg (fun z=>SV.d (.bool z)) ?_;rw [Bool.eq_iff_iff,decide_eq_true_iff];simp at hl2 ⊢;omega
        ·
         try (have g6:¬ ((rdByte s).1=6∨(rdByte s).1=7):=hc40)
         try (have hr:rdV d s=(.mk (rdByte s).1 0 [] [] [],((rdByte s).2.1,true)):=by rw [he];simp only [rdV];rw [if_neg g1,if_neg g2,if_neg g3,if_neg g4,if_neg g6])
         refine WP.reg tabOk rfl ?_;refine ub ?_;refine ua ?_;refine u_nil ?_;refine Le.al ?_;simp only [List.forall_mem_cons];have hl2:=hc40;refine ⟨rfl,rfl,rfl,rfl,rfl,?_,by simp⟩;refine congrArg (fun z=>SV.d (.bool z)) ?_;rw [Bool.eq_iff_iff,decide_eq_true_iff];simp at hl2 ⊢;omega
       ·
        refine wc (fun hc41=>?_) (fun hc41=>?_) <;> try simp only [Q0,Q1,Q2,Q3,Q4,Q5,Q6,Q7,Q8,ge_iff_le,gt_iff_lt] at hc41
        ·
         try (have g6:(rdByte s).1=6∨(rdByte s).1=7:=hc41)
         try (have hr:rdV d s=(.mk (rdByte s).1 0 [] (rdIs (rdV e) (decide ((rdByte s).1=7)) (cntS (rdByte s).2 4096).1.toNat (cntS (rdByte s).2 4096).2 [] []).1 (rdIs (rdV e) (decide ((rdByte s).1=7)) (cntS (rdByte s).2 4096).1.toNat (cntS (rdByte s).2 4096).2 [] []).2.1,(rdIs (rdV e) (decide ((rdByte s).1=7)) (cntS (rdByte s).2 4096).1.toNat (cntS (rdByte s).2 4096).2 [] []).2.2):=by rw [he];simp only [rdV];rw [if_neg g1,if_neg g2,if_neg g3,if_neg g4,if_pos g6])
         refine wr ?_;refine u_step (o_moveV (v:=.loc _ _) rfl ?_);refine ug th27 hb6 ?_;refine um ?_;refine u_step (o_bin_int rfl rfl (by decide) (show intBin .sub .i64 (d:Int) 1=some (.int .i64 (e:Int)) from congrArg (fun z=>some (D.int .i64 z)) hde) ?_);refine u_step (g_mcall (hit e he _ _ (by omega)) hb4_6 rfl fun o43 hb43 hk43=>?_);have hb2_43:=(hk43 _ (by omega)).trans hb2_6;have hb6_43:=(hk43 _ (by omega)).trans hb6;refine u_step0 (g_sta rfl rfl th27 rfl hb2_43 (by first | (simp;done) | (simp [D.leaves,D.width,valCells];done) | decide) fun o44 hb44 hk44=>?_);have hb6_44:=(hk44 _ (by omega)).trans hb6_43;have hb43_44:=(hk44 _ (by omega)).trans hb43;refine u_nil ?_;refine WP.ret ?_;refine retCM_ok (resis_agg rfl th27 rfl hb44 rfl rfl rfl) ?_ (by omega) (by rw [hr];exact hb43_44) (fun t ht=>(hk44 t (by omega)).trans ((hk43 t (by omega)).trans ((hk6 t (by omega)).trans ((hk5 t (by omega)).trans ((hk4 t (by omega)).trans ((hk2 t (by omega))))))));rw [hr];exact D.le_refl _
        ·
         try (have g6:¬ ((rdByte s).1=6∨(rdByte s).1=7):=hc41)
         try (have hr:rdV d s=(.mk (rdByte s).1 0 [] [] [],((rdByte s).2.1,true)):=by rw [he];simp only [rdV];rw [if_neg g1,if_neg g2,if_neg g3,if_neg g4,if_neg g6])
         refine WP.reg tabOk rfl ?_;refine u_step (o_moveV (v:=.loc _ _) rfl ?_);refine u_step (g_mcall (s109 _) hb4_6 rfl fun o45 hb45 hk45=>?_);have hb2_45:=(hk45 _ (by omega)).trans hb2_6;have hb6_45:=(hk45 _ (by omega)).trans hb6;refine u_nil ?_;refine hK14 _ ?_;refine wr ?_;refine ug th27 hb6_45 ?_;refine u_step0 (g_sta rfl rfl th27 rfl hb2_45 (by first | (simp;done) | (simp [D.leaves,D.width,valCells];done) | decide) fun o47 hb47 hk47=>?_);have hb6_47:=(hk47 _ (by omega)).trans hb6_45;have hb45_47:=(hk47 _ (by omega)).trans hb45;refine u_nil ?_;refine WP.ret ?_;refine retCM_ok (resis_agg rfl th27 rfl hb47 rfl rfl rfl) ?_ (by omega) (by rw [hr];exact hb45_47) (fun t ht=>(hk47 t (by omega)).trans ((hk45 t (by omega)).trans ((hk6 t (by omega)).trans ((hk5 t (by omega)).trans ((hk4 t (by omega)).trans ((hk2 t (by omega))))))));rw [hr];exact leV0 _ _ _
end Go.Proofs.YtpkcbdhjnnnkbaaGreat.Abs

set_option linter.unusedVariables false
set_option linter.unusedSimpArgs false
set_option maxRecDepth 10000
namespace Go.Proofs.YtpkcbdhjnnnkbaaGreat.Abs
open Go
theorem cnt_rng (s:SB) (m:Int) (h0:0≤m):0≤(cntS s m).1∧(cntS s m).1≤m:=by
 cases h:(takeS s (gP s).2 (rightS (gP s).1 m)).1 with
 | false=>rw [cntS_no h];omega
 | true=>
  rw [cntS_yes h];have hr:rightS (gP s).1 m=true:=by
   unfold takeS at h;split at h
   ·cases h
   ·rename_i hq;cases hz:rightS (gP s).1 m with
    | true=>rfl
    | false=>exact absurd (Or.inr (Or.inr hz)) hq
  simp only [rightS,Bool.and_eq_true,decide_eq_true_eq] at hr;have hw:IntKind.i64.wrap ((gP s).1:Int)=((gP s).1:Int):=wrap_i64 (by omega) (by omega);rw [hw] at hr ⊢;omega
theorem encVs_app (xs:List Val) (v:Val):encVs (xs++[v])=encVs xs++[encV v]:=by simp [encVs_map]
theorem rdIs_doc {rd:SB→Val×SB} {doc:Bool} {n:Nat} {s:SB} {xs:List Val} {ns:List Str} (hd:doc=true) (hb:¬ s.2=true):rdIs rd doc (n+1) s xs ns=rdIs rd doc n (rd (txtS s 32).2).2 (xs++[(rd (txtS s 32).2).1]) (ns++[(txtS s 32).1]):=by
 subst hd;simp only [rdIs,if_neg hb,if_true]
theorem rdIs_arr {rd:SB→Val×SB} {doc:Bool} {n:Nat} {s:SB} {xs:List Val} {ns:List Str} (hd:¬ doc=true) (hb:¬ s.2=true):rdIs rd doc (n+1) s xs ns=rdIs rd doc n (rd s).2 (xs++[(rd s).1]) ns:=by
 simp only [rdIs,if_neg hb,if_neg hd]
theorem rdIs_bad {rd:SB→Val×SB} {doc:Bool} {n:Nat} {s:SB} {xs:List Val} {ns:List Str} (hb:s.2=true):rdIs rd doc n s xs ns=(xs,ns,s):=by
 cases n with
 | zero=>rfl
 | succ n=>simp only [rdIs,if_pos hb]
theorem fn180:FnOkC Tryz.prog 180 33 [.cell 6 27] (bodyOf Tryz.f180):=⟨Tryz.f180,Tryz.func180,by kernel_rfl,by decide,by kernel_rfl,by kernel_rfl⟩
theorem s180 (e:Nat) (ih:∀ s:SB,s.1.length≤4611686018427387904→MSpec Tryz.prog 151 (fun k=>[.loc k 0,.d (.int .i64 e)]) (srcS s) (srcS (rdV e s).2) (.d (encV (rdV e s).1))) (kd:Int) (s:SB) (hx:s.1.length≤4611686018427387904):MSpec Tryz.prog 180 (fun k=>[.loc k 0,.d (.agg [.int .i64 kd,.int .i64 0,.str [],.nil,.nil]),.d (.int .i64 e)]) (srcS s) (srcS (rdIs (rdV e) (decide (kd=7)) (cntS s 4096).1.toNat (cntS s 4096).2 [] []).2.2) (.d (encV (.mk kd 0 [] (rdIs (rdV e) (decide (kd=7)) (cntS s 4096).1.toNat (cntS s 4096).2 [] []).1 (rdIs (rdV e) (decide (kd=7)) (cntS s 4096).1.toNat (cntS s 4096).2 [] []).2.1))):=by
 have hcr:=cnt_rng s 4096 (by decide);have hcl:=cnt_le s 4096;refine MSpec.ofC tabOk fn180 (fun _=>by simp) (fun _=>by first | exact srcS_lts _ _ | simp [SV.lts,SV.lt]) fun o nk k hkn hM=>?_;refine wr ?_;refine u_step (g_box rfl fun o2 hb2 hk2=>?_);have hM_2:=(hk2 _ (by omega)).trans hM;refine u_step (g_alloc th27 rfl fun o3 hb3 hk3=>?_);have hM_3:=(hk3 _ (by omega)).trans hM_2;have hb2_3:=(hk3 _ (by omega)).trans hb2;refine u_nil ?_;refine WP.seq fun K4 hK4=>?_;refine wr ?_;refine u_step (o_moveV (v:=.loc _ _) rfl ?_);refine u_step (g_mcall (s92 s 4096) hM_3 rfl fun o6 hb6 hk6=>?_);have hb2_6:=(hk6 _ (by omega)).trans hb2_3;have hb3_6:=(hk6 _ (by omega)).trans hb3;refine um ?_;refine u_nil ?_;refine WP.block ?_;refine WP.loopL (ι:=Nat×SB×List Val×List Str×SV×Option Nat×SV×Option Nat×Nat×Nat×(Nat→Option AO)×Nat) (fun ⟨i,s1,xs,ns,c,q,c2,q2,a,b,o2,nk2⟩=>⟨al [(0,.loc k 0),(2,.d (.int .i64 e)),(4,.loc nk 0),(6,.loc (nk+1) 0),(8,.d (.int .i64 (cntS s 4096).1)),(9,.d (.int .i64 i))],o2,nk2⟩) (fun ⟨i,s1,xs,ns,c,q,c2,q2,a,b,o2,nk2⟩=>i≤(cntS s 4096).1.toNat∧nk+2≤nk2∧s1.1.length≤4611686018427387904∧xs.length≤i∧ns.length≤i∧rdIs (rdV e) (decide (kd=7)) ((cntS s 4096).1.toNat - i) s1 xs ns=rdIs (rdV e) (decide (kd=7)) (cntS s 4096).1.toNat (cntS s 4096).2 [] []∧o2 k=some (.box (srcS s1))∧o2 nk=some (.box [.d (.int .i64 kd),.d (.int .i64 0),.d (.str []),c,c2])∧o2 (nk+1)=some (.box [.d (.int .i64 0),.d (.int .i64 0),.d (.str []),.d .nil,.d .nil])∧dstOf o2 27 5 c=some (q,encVs xs)∧(∀ t,q=some t→nk+2≤t∧t < nk2∧t=a)∧dstOf o2 9 1 c2=some (q2,ns.map .str)∧(∀ t,q2=some t→nk+2≤t∧t < nk2∧t=b)∧a < nk2∧b < nk2∧a≠b∧∀ t,t < nk∧t≠k→o2 t=o t) (fun ⟨i,s1,xs,ns,c,q,c2,q2,a,b,o2,nk2⟩=>(cntS s 4096).1.toNat - i) (fun ⟨i,s1,xs,ns,c,q,c2,q2,a,b,o2,nk2⟩ hA=>?_) ⟨0,(cntS s 4096).2,[],[],.d .nil,none,.d .nil,none,0,1,o6,((nk+1)+1)⟩ ?_ ?_
 ·
  obtain ⟨hle,hnk,hsl,hxl,hnl,heq,hsk,hob,hzb,hd,hq,hd2,hq2,hal,hbl,hab,hfr⟩:=hA;refine wr ?_;refine ub ?_;refine u_nil ?_;refine WP.seq fun K8 hK8=>?_;refine wc (fun hc9=>?_) (fun hc9=>?_) <;> try simp only [Q0,Q1,Q2,Q3,Q4,Q5,Q6,Q7,Q8,ge_iff_le,gt_iff_lt] at hc9
  ·
   have hlt:i < (cntS s 4096).1.toNat:=by have hq:=hc9;(try simp at hq);omega
   refine WP.skip ?_;refine hK8 _ ?_;refine WP.seq fun K10 hK10=>?_;refine WP.block ?_;refine WP.seq fun K11 hK11=>?_;refine wr ?_;refine u_step (o_moveV (v:=.loc _ _) rfl ?_);refine u_step (o_scall (s41 s1 hsk) rfl ?_);refine u_nil ?_;refine wc (fun hc13=>?_) (fun hc13=>?_) <;> try simp only [Q0,Q1,Q2,Q3,Q4,Q5,Q6,Q7,Q8,ge_iff_le,gt_iff_lt] at hc13
   ·
    have hbad:s1.2=true:=by simpa using hc13
    have hfin:rdIs (rdV e) (decide (kd=7)) (cntS s 4096).1.toNat (cntS s 4096).2 [] []=(xs,ns,s1):=by rw [← heq];exact rdIs_bad hbad
    refine WP.exit ?_;refine hK4 _ ?_;refine WP.frzC2 (pre:=[.d (.int .i64 kd),.d (.int .i64 0),.d (.str [])]) (post:=[]) [(4,.loc nk 0),(6,.loc (nk+1) 0)] nk hob hd hd2 (fun t h1 h2=>by have:=hq t h1;have:=hq2 t h2;omega) (Nat.le_refl _) (fun t d=>⟨rfl,rfl⟩) (fun t d=>by simp only [List.forall_mem_cons];exact ⟨⟨rfl,rfl⟩,⟨rfl,rfl⟩,by simp⟩) (by simp only [List.forall_mem_cons];exact ⟨rfl,rfl,by simp⟩) (by simp only [List.forall_mem_cons];exact ⟨rfl,rfl,by simp⟩) fun o9 hB9 hk9 hm9=>?_;have hZ9:=hm9 _ _ (by omega) hzb fun t d=>rfl;have hF9:∀ t,t < nk→o9 t=o2 t:=fun t ht=>hk9 t ht (fun h=>by have:=hq t h;omega) (fun h=>by have:=hq2 t h;omega);have hM9:=(hF9 _ hkn).trans hsk;refine wr ?_;refine ug th27 hB9 ?_;refine u_step0 (g_sta rfl rfl th27 rfl hZ9 (by first | (simp;done) | (simp [D.leaves,D.width,valCells];done) | decide) fun o15 hb15 hk15=>?_);have hM9_15:=(hk15 _ (by omega)).trans hM9;have hB9_15:=(hk15 _ (by omega)).trans hB9;refine u_nil ?_;refine WP.ret ?_;refine retCM_ok (resis_agg rfl th27 rfl hb15 rfl rfl rfl) ?_ (by omega) (by rw [hfin];exact hM9_15) (fun t ht=>(hk15 t (by omega)).trans ((hF9 t (by omega)).trans ((hfr t (by omega)))));rw [hfin];exact D.le_refl _
   ·
    have hbad:¬ s1.2=true:=by simpa using hc13
    refine WP.skip ?_;refine hK11 _ ?_;refine WP.seq fun K16 hK16=>?_;refine wr ?_;refine uf th27 th3 hob ?_;refine ul th3 hob ?_;refine ub ?_;refine u_nil ?_;refine wc (fun hc18=>?_) (fun hc18=>?_) <;> try simp only [Q0,Q1,Q2,Q3,Q4,Q5,Q6,Q7,Q8,ge_iff_le,gt_iff_lt] at hc18
    ·
     have h7:decide (kd=7)=true:=by simpa using hc18
     refine WP.dr3 [.q 0 1,.q 0 1,.q 0 0,.w 0,.q 1 1,.w 1,.q 2 2,.w 2] [3,5,7] nk2 (nk2+1) (nk2+1) tabOk (by kernel_rfl) rfl (by kernel_rfl) (by kernel_rfl) ?_;apply Exists.intro;apply Exists.intro;apply Exists.intro;refine e_step2 rfl rfl (o_fa_loc rfl th27 rfl rfl th22 (by decide) hob ⟨rfl,rfl,rfl⟩) ?_ ?_;rotate_left;refine e_step2 rfl rfl (o_ld_locV rfl th22 rfl hob rfl ⟨rfl,rfl,rfl⟩) ?_ ?_;rotate_left;refine e_step rfl (o_moveV (v:=.loc _ _) rfl ⟨rfl,rfl,rfl⟩) ?_;refine e_w rfl rfl (w_mcall (s107 s1 32 (by omega)) hsk rfl ⟨rfl,rfl,rfl⟩) ?_;refine e_step rfl (o_bs rfl th22 rfl th9 rfl rfl (by decide) rfl (by decide) (by decide) ⟨rfl,rfl,rfl⟩) ?_;refine e_w rfl rfl (w_apD rfl th22 rfl th9 rfl rfl (by decide) rfl (dst_keep hd2 fun t e=>(by have:=hq2 t e;exact upd_ne _ _ (by omega))) (by simp only [List.length_map,List.length_cons,List.length_nil];omega) (by simp only [List.length_map,List.length_cons,List.length_nil];omega) ⟨rfl,rfl,rfl⟩) ?_;refine e_step rfl (o_fa_loc rfl th27 rfl rfl th22 (by decide) (((upd_ne _ _ (by omega)).trans (killo_ne (fun e=>by have:=hq2 _ e;omega))).trans ((upd_ne _ _ (by omega)).trans hob)) ⟨rfl,rfl,rfl⟩) ?_;refine e_w0 rfl rfl (w_stV rfl rfl (upd_same _ _ _) th22 rfl (((upd_ne _ _ (by omega)).trans (killo_ne (fun e=>by have:=hq2 _ e;omega))).trans ((upd_ne _ _ (by omega)).trans hob)) (by simp) ⟨rfl,rfl,rfl⟩) ?_;refine e_nil rfl fun o22 ho22=>?_;have hbZ_22:=(ho22 _).trans ((upd_ne _ _ (by omega)).trans (((upd_ne _ _ (by omega)).trans (killo_ne (fun e=>by have:=hq2 _ e;omega))).trans ((upd_ne _ _ (by omega)).trans hzb)));have hdC_22:=dst_keep (o':=o22) hd fun t e=>(by have:=hq t e;exact (ho22 t).trans ((upd_ne _ _ (by omega)).trans (((upd_ne _ _ (by omega)).trans (killo_ne (fun e=>by have:=hq2 _ e;omega))).trans (upd_ne _ _ (by omega)))));have hbM_22:=(ho22 _).trans ((upd_ne _ _ (by omega)).trans (((upd_ne _ _ (by omega)).trans (killo_ne (fun e=>by have:=hq2 _ e;omega))).trans (upd_same _ _ _)));have hbr20_22:=(ho22 _).trans ((upd_ne _ _ (by omega)).trans (upd_same _ _ _));have hbB_22:=(ho22 _).trans (upd_same _ _ _);have hk22:∀ t,t < nk∧t≠k→o22 t=o2 t:=fun t ht=>(ho22 t).trans ((upd_ne _ _ (by omega)).trans (((upd_ne _ _ (by omega)).trans (killo_ne (fun e=>by have:=hq2 _ e;omega))).trans (upd_ne _ _ (by omega))))
     ·
      refine hK16 _ ?_;refine WP.dr3 [.q 0 1,.q 0 1,.q 0 0,.q 0 0,.w 0,.q 1 1,.w 1,.q 2 2,.w 2] [4,6,8] (nk2+1) ((nk2+1)+1) ((nk2+1)+1) tabOk (by kernel_rfl) rfl (by kernel_rfl) (by kernel_rfl) ?_;apply Exists.intro;apply Exists.intro;apply Exists.intro;refine e_step2 rfl rfl (o_fa_loc rfl th27 rfl rfl th25 (by decide) hbB_22 ⟨rfl,rfl,rfl⟩) ?_ ?_;rotate_left;refine e_step2 rfl rfl (o_ld_locV rfl th25 rfl hbB_22 rfl ⟨rfl,rfl,rfl⟩) ?_ ?_;rotate_left;refine e_step rfl (o_moveV (v:=.loc _ _) rfl ⟨rfl,rfl,rfl⟩) ?_;refine e_step rfl (o_move rfl ⟨rfl,rfl,rfl⟩) ?_;refine e_w rfl rfl (w_mcall (ih _ (by have:=txt_le s1 32;omega)) hbM_22 rfl ⟨rfl,rfl,rfl⟩) ?_
      first | refine e_step rfl (o_bs rfl th25 rfl th27 rfl rfl (by decide) rfl (by decide) (by decide) ⟨rfl,rfl,rfl⟩) ?_ | refine e_step rfl (o_bs1 rfl (by simp only [encV_width]) th25 rfl th27 rfl rfl (by decide) (by decide) ⟨rfl,rfl,rfl⟩) ?_
      refine e_w rfl rfl (w_apD rfl th25 rfl th27 rfl rfl (by decide) rfl (dst_keep hdC_22 fun t e=>(by have:=hq t e;exact upd_ne _ _ (by omega))) (by simp only [encVs_length,List.length_cons,List.length_nil];omega) (by simp only [encVs_length,List.length_cons,List.length_nil];omega) ⟨rfl,rfl,rfl⟩) ?_;refine e_step rfl (o_fa_loc rfl th27 rfl rfl th25 (by decide) (((upd_ne _ _ (by omega)).trans (killo_ne (fun e=>by have:=hq _ e;omega))).trans ((upd_ne _ _ (by omega)).trans hbB_22)) ⟨rfl,rfl,rfl⟩) ?_;refine e_w0 rfl rfl (w_stV rfl rfl (upd_same _ _ _) th25 rfl (((upd_ne _ _ (by omega)).trans (killo_ne (fun e=>by have:=hq _ e;omega))).trans ((upd_ne _ _ (by omega)).trans hbB_22)) (by simp) ⟨rfl,rfl,rfl⟩) ?_;refine e_nil rfl fun o26 ho26=>?_;have hbZ_26:=(ho26 _).trans ((upd_ne _ _ (by omega)).trans (((upd_ne _ _ (by omega)).trans (killo_ne (fun e=>by have:=hq _ e;omega))).trans ((upd_ne _ _ (by omega)).trans hbZ_22)));have hbr20_26:=(ho26 _).trans ((upd_ne _ _ (by omega)).trans (((upd_ne _ _ (by omega)).trans (killo_ne (fun e=>by have:=hq _ e;omega))).trans ((upd_ne _ _ (by omega)).trans hbr20_22)));have hbM_26:=(ho26 _).trans ((upd_ne _ _ (by omega)).trans (((upd_ne _ _ (by omega)).trans (killo_ne (fun e=>by have:=hq _ e;omega))).trans (upd_same _ _ _)));have hbr24_26:=(ho26 _).trans ((upd_ne _ _ (by omega)).trans (upd_same _ _ _));have hbB_26:=(ho26 _).trans (upd_same _ _ _);have hk26:∀ t,t < nk∧t≠k→o26 t=o22 t:=fun t ht=>(ho26 t).trans ((upd_ne _ _ (by omega)).trans (((upd_ne _ _ (by omega)).trans (killo_ne (fun e=>by have:=hq _ e;omega))).trans (upd_ne _ _ (by omega))))
      ·
       refine hK10 _ ?_;refine WP.reg tabOk rfl ?_;refine ub ?_;refine um ?_;refine u_nil ?_;refine ⟨⟨i+1,(rdV e (txtS s1 32).2).2,xs++[(rdV e (txtS s1 32).2).1],ns++[(txtS s1 32).1],.row _,some _,.row _,some _,_,_,o26,((nk2+1)+1)⟩,⟨by omega,by omega,by have:=rdV_le e (txtS s1 32).2;have:=txt_le s1 32;omega,by simp;omega,by simp;omega,?_,hbM_26,hbB_26,hbZ_26,(encVs_app xs _).symm ▸ dst_row hbr24_26,fun t e=>by injection e with e;exact ⟨by omega,by omega,e.symm⟩,(List.map_append (f:=D.str) (l₁:=ns) (l₂:=[(txtS s1 32).1])).symm ▸ dst_row hbr20_26,fun t e=>by injection e with e;exact ⟨by omega,by omega,e.symm⟩,by omega,by omega,by omega,(fun t ht=>(hk26 t (by omega)).trans ((hk22 t (by omega)).trans ((hfr t (by omega)))))⟩,by simp only;omega,Le.al ?_⟩
       ·rw [← heq,show (cntS s 4096).1.toNat - i=((cntS s 4096).1.toNat - (i+1))+1 by omega];exact (rdIs_doc h7 hbad).symm
       ·simp only [List.forall_mem_cons];exact ⟨rfl,rfl,rfl,rfl,rfl,cnt (by omega),by simp⟩
      exact o_fa_loc rfl th27 rfl rfl th25 (by decide) ((upd_ne _ _ (by omega)).trans hbB_22) ⟨rfl,rfl,rfl⟩;exact o_ld_locV rfl th25 rfl ((upd_ne _ _ (by omega)).trans hbB_22) rfl ⟨rfl,rfl,rfl⟩
     exact o_fa_loc rfl th27 rfl rfl th22 (by decide) ((upd_ne _ _ (by omega)).trans hob) ⟨rfl,rfl,rfl⟩;exact o_ld_locV rfl th22 rfl ((upd_ne _ _ (by omega)).trans hob) rfl ⟨rfl,rfl,rfl⟩
    ·
     have h7:¬ decide (kd=7)=true:=by simpa using hc18
     refine WP.skip ?_;refine hK16 _ ?_;refine WP.dr3 [.q 0 1,.q 0 1,.q 0 0,.q 0 0,.w 0,.q 1 1,.w 1,.q 2 2,.w 2] [4,6,8] nk2 (nk2+1) (nk2+1) tabOk (by kernel_rfl) rfl (by kernel_rfl) (by kernel_rfl) ?_;apply Exists.intro;apply Exists.intro;apply Exists.intro;refine e_step2 rfl rfl (o_fa_loc rfl th27 rfl rfl th25 (by decide) hob ⟨rfl,rfl,rfl⟩) ?_ ?_;rotate_left;refine e_step2 rfl rfl (o_ld_locV rfl th25 rfl hob rfl ⟨rfl,rfl,rfl⟩) ?_ ?_;rotate_left;refine e_step rfl (o_moveV (v:=.loc _ _) rfl ⟨rfl,rfl,rfl⟩) ?_;refine e_step rfl (o_move rfl ⟨rfl,rfl,rfl⟩) ?_;refine e_w rfl rfl (w_mcall (ih _ (by have:=txt_le s1 32;omega)) hsk rfl ⟨rfl,rfl,rfl⟩) ?_
     first | refine e_step rfl (o_bs rfl th25 rfl th27 rfl rfl (by decide) rfl (by decide) (by decide) ⟨rfl,rfl,rfl⟩) ?_ | refine e_step rfl (o_bs1 rfl (by simp only [encV_width]) th25 rfl th27 rfl rfl (by decide) (by decide) ⟨rfl,rfl,rfl⟩) ?_
     refine e_w rfl rfl (w_apD rfl th25 rfl th27 rfl rfl (by decide) rfl (dst_keep hd fun t e=>(by have:=hq t e;exact upd_ne _ _ (by omega))) (by simp only [encVs_length,List.length_cons,List.length_nil];omega) (by simp only [encVs_length,List.length_cons,List.length_nil];omega) ⟨rfl,rfl,rfl⟩) ?_;refine e_step rfl (o_fa_loc rfl th27 rfl rfl th25 (by decide) (((upd_ne _ _ (by omega)).trans (killo_ne (fun e=>by have:=hq _ e;omega))).trans ((upd_ne _ _ (by omega)).trans hob)) ⟨rfl,rfl,rfl⟩) ?_;refine e_w0 rfl rfl (w_stV rfl rfl (upd_same _ _ _) th25 rfl (((upd_ne _ _ (by omega)).trans (killo_ne (fun e=>by have:=hq _ e;omega))).trans ((upd_ne _ _ (by omega)).trans hob)) (by simp) ⟨rfl,rfl,rfl⟩) ?_;refine e_nil rfl fun o30 ho30=>?_;have hbZ_30:=(ho30 _).trans ((upd_ne _ _ (by omega)).trans (((upd_ne _ _ (by omega)).trans (killo_ne (fun e=>by have:=hq _ e;omega))).trans ((upd_ne _ _ (by omega)).trans hzb)));have hdE_30:=dst_keep (o':=o30) hd2 fun t e=>(by have:=hq2 t e;exact (ho30 t).trans ((upd_ne _ _ (by omega)).trans (((upd_ne _ _ (by omega)).trans (killo_ne (fun e=>by have:=hq _ e;omega))).trans (upd_ne _ _ (by omega)))));have hbM_30:=(ho30 _).trans ((upd_ne _ _ (by omega)).trans (((upd_ne _ _ (by omega)).trans (killo_ne (fun e=>by have:=hq _ e;omega))).trans (upd_same _ _ _)));have hbr28_30:=(ho30 _).trans ((upd_ne _ _ (by omega)).trans (upd_same _ _ _));have hbB_30:=(ho30 _).trans (upd_same _ _ _);have hk30:∀ t,t < nk∧t≠k→o30 t=o2 t:=fun t ht=>(ho30 t).trans ((upd_ne _ _ (by omega)).trans (((upd_ne _ _ (by omega)).trans (killo_ne (fun e=>by have:=hq _ e;omega))).trans (upd_ne _ _ (by omega))))
     ·
      refine hK10 _ ?_;refine WP.reg tabOk rfl ?_;refine ub ?_;refine um ?_;refine u_nil ?_;refine ⟨⟨i+1,(rdV e s1).2,xs++[(rdV e s1).1],ns,.row _,some _,c2,q2,_,b,o30,(nk2+1)⟩,⟨by omega,by omega,by have:=rdV_le e s1;omega,by simp;omega,by omega,?_,hbM_30,hbB_30,hbZ_30,(encVs_app xs _).symm ▸ dst_row hbr28_30,fun t e=>by injection e with e;exact ⟨by omega,by omega,e.symm⟩,hdE_30,fun t e=>by have:=hq2 t e;omega,by omega,by omega,by omega,(fun t ht=>(hk30 t (by omega)).trans ((hfr t (by omega))))⟩,by simp only;omega,Le.al ?_⟩
      ·rw [← heq,show (cntS s 4096).1.toNat - i=((cntS s 4096).1.toNat - (i+1))+1 by omega];exact (rdIs_arr h7 hbad).symm
      ·simp only [List.forall_mem_cons];exact ⟨rfl,rfl,rfl,rfl,rfl,cnt (by omega),by simp⟩
     exact o_fa_loc rfl th27 rfl rfl th25 (by decide) ((upd_ne _ _ (by omega)).trans hob) ⟨rfl,rfl,rfl⟩;exact o_ld_locV rfl th25 rfl ((upd_ne _ _ (by omega)).trans hob) rfl ⟨rfl,rfl,rfl⟩
  ·
   have hge:(cntS s 4096).1.toNat - i=0:=by have hq:=hc9;(try simp at hq);omega
   have hfin:rdIs (rdV e) (decide (kd=7)) (cntS s 4096).1.toNat (cntS s 4096).2 [] []=(xs,ns,s1):=by rw [← heq,hge];rfl
   refine WP.exit ?_;refine hK4 _ ?_;refine WP.frzC2 (pre:=[.d (.int .i64 kd),.d (.int .i64 0),.d (.str [])]) (post:=[]) [(4,.loc nk 0),(6,.loc (nk+1) 0)] nk hob hd hd2 (fun t h1 h2=>by have:=hq t h1;have:=hq2 t h2;omega) (Nat.le_refl _) (fun t d=>⟨rfl,rfl⟩) (fun t d=>by simp only [List.forall_mem_cons];exact ⟨⟨rfl,rfl⟩,⟨rfl,rfl⟩,by simp⟩) (by simp only [List.forall_mem_cons];exact ⟨rfl,rfl,by simp⟩) (by simp only [List.forall_mem_cons];exact ⟨rfl,rfl,by simp⟩) fun o9 hB9 hk9 hm9=>?_;have hZ9:=hm9 _ _ (by omega) hzb fun t d=>rfl;have hF9:∀ t,t < nk→o9 t=o2 t:=fun t ht=>hk9 t ht (fun h=>by have:=hq t h;omega) (fun h=>by have:=hq2 t h;omega);have hM9:=(hF9 _ hkn).trans hsk;refine wr ?_;refine ug th27 hB9 ?_;refine u_step0 (g_sta rfl rfl th27 rfl hZ9 (by first | (simp;done) | (simp [D.leaves,D.width,valCells];done) | decide) fun o32 hb32 hk32=>?_);have hM9_32:=(hk32 _ (by omega)).trans hM9;have hB9_32:=(hk32 _ (by omega)).trans hB9;refine u_nil ?_;refine WP.ret ?_;refine retCM_ok (resis_agg rfl th27 rfl hb32 rfl rfl rfl) ?_ (by omega) (by rw [hfin];exact hM9_32) (fun t ht=>(hk32 t (by omega)).trans ((hF9 t (by omega)).trans ((hfr t (by omega)))));rw [hfin];exact D.le_refl _
 ·
  refine ⟨by omega,by omega,by omega,by simp,by simp,rfl,hb6,hb2_6,hb3_6,rfl,by simp,rfl,by simp,by omega,by omega,by decide,(fun t ht=>(hk6 t (by omega)).trans ((hk3 t (by omega)).trans ((hk2 t (by omega)))))⟩
 ·
  refine Le.al ?_;simp only [List.forall_mem_cons];exact ⟨rfl,rfl,rfl,rfl,rfl,rfl,by simp⟩
end Go.Proofs.YtpkcbdhjnnnkbaaGreat.Abs

set_option linter.unusedVariables false
set_option linter.unusedSimpArgs false
set_option maxRecDepth 10000
set_option maxHeartbeats 1000000
namespace Go.Proofs.YtpkcbdhjnnnkbaaGreat.Abs
open Go
def pot (s:SB):Nat:=s.1.length+(if s.2=true then 0 else 2)
theorem pot_no (b:List UInt8):pot (b,true)=b.length:=rfl
theorem pot_ok (b:List UInt8):pot (b,false)=b.length+2:=rfl
theorem pot_bad {s:SB} (h:s.2=true):pot s=s.1.length:=by unfold pot;rw [if_pos h];rfl
theorem pot_good {s:SB} (h:s.2=false):pot s=s.1.length+2:=by unfold pot;rw [if_neg (by rw [h];decide)]
theorem pot_byte (s:SB):pot (rdByte s).2+(if s.2=true then 0 else 1)≤pot s:=by
 cases hb:s.2 with
 | true=>rw [rdByte_no (.inl hb)];rw [pot_no,pot_bad hb];simp
 | false=>
  rcases Nat.eq_zero_or_pos s.1.length with hz | hz
  ·rw [rdByte_no (.inr (List.length_eq_zero_iff.1 hz)),pot_no,pot_good hb];simp
  ·rw [rdByte_ok hb hz,pot_ok,pot_good hb];simp;omega
theorem pot_take (s:SB) (n:Nat) (r:Bool):pot (takeS s n r).2≤pot s:=by
 unfold takeS;split
 ·rw [pot_no];unfold pot;omega
 ·rename_i h;have hb:s.2=false:=by cases hb:s.2 with
   | false=>rfl
   | true=>exact absurd (.inl hb) h
  rw [pot_ok,pot_good hb];simp
theorem pot_cnt (s:SB) (m:Int):pot (cntS s m).2≤pot s:=pot_take _ _ _
theorem pot_int (s:SB):pot (intS s).2≤pot s:=pot_take _ _ _
theorem pot_txt (s:SB) (m:Int) (hx:s.1.length≤4611686018427387904):(txtS s m).1.length+pot (txtS s m).2+(if s.2=true then 0 else 1)≤pot s:=by
 cases h:txtBad s m with
 | true=>
  rw [txtS_no h,pot_no];cases hb:s.2 with
  | true=>rw [pot_bad hb];simp
  | false=>rw [pot_good hb];simp
 | false=>
  have hf:=txt_fits (by omega) h;have h0:¬ (gP s).2=0:=by
   simp only [txtBad,Bool.or_eq_false_iff,decide_eq_false_iff_not,beq_eq_false_iff_ne,ne_eq] at h;have:=h.2;omega
  rw [txtS_ok h,pot_ok,pot_good hf.1,hf.1];simp only [List.length_drop,List.length_take,Bool.false_eq_true,if_false];omega
theorem szN_app (ns:List Str) (t:Str):szN (ns++[t])=szN ns+(t.length+1):=by
 induction ns with
 | nil=>simp [szN]
 | cons a r ih=>simp only [List.cons_append,szN,ih];omega
theorem szVs_app (xs:List Val) (v:Val):szVs (xs++[v])=szVs xs+szV v:=by
 induction xs with
 | nil=>simp [szVs]
 | cons a r ih=>simp only [List.cons_append,szVs,ih];omega
theorem rngVs_app (xs:List Val) (v:Val) (h:rngVs xs) (hv:rngV v):rngVs (xs++[v]):=by
 induction xs with
 | nil=>exact ⟨hv,trivial⟩
 | cons a r ih=>exact ⟨h.1,ih h.2⟩
theorem rdIs_sz {rd:SB→Val×SB} (hle:∀ s,(rd s).2.1.length≤s.1.length) (hrd:∀ s,s.1.length≤4611686018427387904→szV (rd s).1+pot (rd s).2≤pot s+(if s.2=true then 1 else 0)) (doc:Bool):∀ (n:Nat) (s:SB) (xs:List Val) (ns:List Str),s.1.length≤4611686018427387904→
    szVs (rdIs rd doc n s xs ns).1+szN (rdIs rd doc n s xs ns).2.1+pot (rdIs rd doc n s xs ns).2.2≤szVs xs+szN ns+pot s
  | 0,s,xs,ns,hx=>Nat.le_refl _
  | n+1,s,xs,ns,hx=>by
    cases hb:s.2 with
    | true=>rw [rdIs_bad hb];exact Nat.le_refl _
    | false=>
      have hb':¬ s.2=true:=by rw [hb];decide
      cases doc with
      | true=>
        rw [rdIs_doc rfl hb'];have h1:=txt_le s 32;have h2:=hrd (txtS s 32).2 (by omega);have h3:=pot_txt s 32 hx;have h4:=rdIs_sz hle hrd true n (rd (txtS s 32).2).2 (xs++[(rd (txtS s 32).2).1]) (ns++[(txtS s 32).1]) (by have:=hle (txtS s 32).2;omega);rw [szVs_app,szN_app] at h4;rw [if_neg hb'] at h3;have h5:(txtS s 32).1.length+pot (txtS s 32).2+(if (txtS s 32).2.2=true then 1 else 0)+1≤pot s:=by
          cases hz:txtBad s 32 with
          | true=>rw [txtS_no hz,pot_no,pot_good hb];simp
          | false=>rw [txtS_ok hz] at h3 ⊢;simp at h3 ⊢;omega
        omega
      | false=>
        rw [rdIs_arr (by decide) hb'];have h2:=hrd s hx;have h4:=rdIs_sz hle hrd false n (rd s).2 (xs++[(rd s).1]) ns (by have:=hle s;omega);rw [szVs_app] at h4;rw [if_neg hb'] at h2;omega
theorem rdV_sz:∀ (d:Nat) (s:SB),s.1.length≤4611686018427387904→szV (rdV d s).1+pot (rdV d s).2≤pot s+(if s.2=true then 1 else 0)
 | 0,s,hx=>by
  have h1:=pot_byte s;have h2:pot ((rdByte s).2.1,true)≤pot (rdByte s).2:=by rw [pot_no];unfold pot;omega
  simp only [rdV,szV,szVs,szN,List.length_nil];split at h1 <;> simp_all <;> omega
 | d+1,s,hx=>by
  have h1:=pot_byte s;have hb:=byte_le s;have h2:pot ((rdByte s).2.1,true)≤pot (rdByte s).2:=by rw [pot_no];unfold pot;omega
  have h3:=pot_byte (rdByte s).2;have h4:=pot_int (rdByte s).2;have h5:=pot_txt (rdByte s).2 4096 (by omega);have h6:=pot_cnt (rdByte s).2 4096;have h7:=rdIs_sz (rd:=rdV d) (rdV_le d) (rdV_sz d) (decide ((rdByte s).1=7)) (cntS (rdByte s).2 4096).1.toNat (cntS (rdByte s).2 4096).2 [] [] (by have:=cnt_le (rdByte s).2 4096;omega);simp only [szVs,szN] at h7;have h8:1+pot (rdByte s).2≤pot s+(if s.2=true then 1 else 0):=by split at h1 <;> simp_all <;> omega
  obtain ⟨q,hq⟩:∃ q:Nat,(if s.2=true then 1 else 0)=q:=⟨_,rfl⟩;rw [hq] at h8 ⊢;clear h1 hq;simp only [rdV]
  repeat' split
  all_goals simp only [szV,szVs,szN,List.length_nil]
  all_goals omega
theorem rngs_rdIs {rd:SB→Val×SB} (hrd:∀ s,rngV (rd s).1) (doc:Bool):∀ (n:Nat) (s:SB) (xs:List Val) (ns:List Str),rngVs xs→rngVs (rdIs rd doc n s xs ns).1
 | 0,s,xs,ns,h=>h
 | n+1,s,xs,ns,h=>by
  simp only [rdIs];split
  ·exact h
  ·exact rngs_rdIs hrd doc n _ _ _ (rngVs_app _ _ h (hrd _))
theorem byte_rng (s:SB):0≤(rdByte s).1∧(rdByte s).1≤255:=by
 unfold rdByte;split
 ·simp
 ·have:=(s.1.headD 0).toNat_lt;simp only;omega
theorem int_rng (s:SB):-9223372036854775808≤(intS s).1∧(intS s).1≤9223372036854775807:=by
 have h:=(gP_len s).2.1;unfold intS;simp only;split
 ·unfold zagI;split <;> omega
 ·omega
theorem rdV_rng:∀ (d:Nat) (s:SB),rngV (rdV d s).1
 | 0,s=>⟨by omega,trivial⟩
 | d+1,s=>by
  have hb:=byte_rng (rdByte s).2;have hi:=int_rng (rdByte s).2;simp only [rdV]
  repeat' split
  ·exact ⟨by omega,trivial⟩
  ·exact ⟨by omega,trivial⟩
  ·exact ⟨by omega,trivial⟩
  ·exact ⟨by omega,trivial⟩
  ·exact ⟨by omega,rngs_rdIs (rdV_rng d) _ _ _ _ _ trivial⟩
  ·exact ⟨by omega,trivial⟩
theorem rd151:∀ (d:Nat),d≤8→∀ s:SB,s.1.length≤4611686018427387904→MSpec Tryz.prog 151 (fun k=>[.loc k 0,.d (.int .i64 d)]) (srcS s) (srcS (rdV d s).2) (.d (encV (rdV d s).1))
 | 0,hd,s,hx=>s151 0 hd s hx (fun e he=>by omega)
 | d+1,hd,s,hx=>s151 (d+1) hd s hx (fun e he kd s hx=>s180 e (fun s hx=>by
  have h:e=d:=by omega
  rw [h];exact rd151 d (by omega) s hx) kd s hx)
def rdAll (s:SB):Val×SB:=if (rdV 8 s).2.2=true∨¬ checkV (rdV 8 s).1=0 then (.mk 0 0 [] [] [],((rdV 8 s).2.1,true)) else rdV 8 s
theorem rdAll_no {s:SB} (h:(rdV 8 s).2.2=true∨¬ checkV (rdV 8 s).1=0):rdAll s=(.mk 0 0 [] [] [],((rdV 8 s).2.1,true)):=if_pos h
theorem rdAll_ok {s:SB} (h:¬ ((rdV 8 s).2.2=true∨¬ checkV (rdV 8 s).1=0)):rdAll s=rdV 8 s:=if_neg h
theorem fn108:FnOkC Tryz.prog 108 17 [.cell 2 27] (bodyOf Tryz.f108):=⟨Tryz.f108,Tryz.func108,by kernel_rfl,by decide,by kernel_rfl,by kernel_rfl⟩
theorem s108 (s:SB) (hx:s.1.length≤1048576):MSpec Tryz.prog 108 (fun k=>[.loc k 0]) (srcS s) (srcS (rdAll s).2) (.d (encV (rdAll s).1)):=by
 have hsz:szV (rdV 8 s).1≤1099511627776:=by
  have h1:=rdV_sz 8 s (by omega);have h2:pot s≤s.1.length+2:=by (unfold pot;split <;> omega)
  split at h1 <;> omega
 refine MSpec.ofC tabOk fn108 (fun _=>by simp) (fun _=>by first | exact srcS_lts _ _ | simp [SV.lts,SV.lt]) fun o nk k hkn hM=>?_;refine wr ?_;refine u_step (g_alloc th27 rfl fun o2 hb2 hk2=>?_);have hM_2:=(hk2 _ (by omega)).trans hM;refine u_nil ?_;refine wr ?_;refine u_step (o_moveV (v:=.loc _ _) rfl ?_);refine u_step (g_mcall (rd151 8 (by decide) s (by omega)) hM_2 rfl fun o4 hb4 hk4=>?_);have hb2_4:=(hk4 _ (by omega)).trans hb2;refine u_step (g_alloc th27 rfl fun o5 hb5 hk5=>?_);have hb2_5:=(hk5 _ (by omega)).trans hb2_4;have hb4_5:=(hk5 _ (by omega)).trans hb4;refine u_step0 (g_sta rfl (congrArg SV.d (encV_eq _)) th27 rfl hb5 (by simp [valCells]) fun o6 hb6 hk6=>?_);have hb2_6:=(hk6 _ (by omega)).trans hb2_5;have hb4_6:=(hk6 _ (by omega)).trans hb4_5;refine u_nil ?_;refine WP.seq fun K7 hK7=>?_;refine wr ?_;refine u_step (o_moveV (v:=.loc _ _) rfl ?_);refine u_step (o_scall (s41 _ hb4_6) rfl ?_);refine um ?_;apply gF
 ·rfl
 ·intro hg;exact pg th27 hb6
 apply gF
 ·rfl
 ·intro hg;try simp only [hg,ct];try simp only [hg,ct,Bt]
  refine o_pcall (pv (s123 (rdV 8 s).1 (rdV_rng 8 s) hsz)) rfl ⟨rfl,rfl,rfl⟩
 apply gF
 ·rfl
 ·intro hg;try simp only [hg,ct];try simp only [hg,ct,Bt]
  exact pb
 refine uO ?_;refine u_nil ?_;refine wc (fun hc9=>?_) (fun hc9=>?_) <;> try simp only [Q0,Q1,Q2,Q3,Q4,Q5,Q6,Q7,Q8,ge_iff_le,gt_iff_lt] at hc9
 ·
  have hz:(rdV 8 s).2.2=true∨¬ checkV (rdV 8 s).1=0:=by have hq:=hc9;simpa using hq
  refine wr ?_;refine u_step (o_moveV (v:=.loc _ _) rfl ?_);refine u_step (g_mcall (s109 _) hb4_6 rfl fun o11 hb11 hk11=>?_);have hb2_11:=(hk11 _ (by omega)).trans hb2_6;have hb6_11:=(hk11 _ (by omega)).trans hb6;refine u_nil ?_;refine wr ?_;refine u_step (o_bu rfl th27 rfl rfl ?_);refine u_step0 (g_sta rfl rfl th27 rfl hb2_11 (by first | (simp;done) | (simp [D.leaves,D.width,valCells];done) | decide) fun o13 hb13 hk13=>?_);have hb6_13:=(hk13 _ (by omega)).trans hb6_11;have hb11_13:=(hk13 _ (by omega)).trans hb11;refine u_nil ?_;refine WP.ret ?_;refine retCM_ok (resis_agg rfl th27 rfl hb13 rfl rfl rfl) ?_ (by omega) (by rw [rdAll_no hz];exact hb11_13) (fun t ht=>(hk13 t (by omega)).trans ((hk11 t (by omega)).trans ((hk6 t (by omega)).trans ((hk5 t (by omega)).trans ((hk4 t (by omega)).trans ((hk2 t (by omega))))))));rw [rdAll_no hz];exact leV0 _ _ _
 ·
  have hz:¬ ((rdV 8 s).2.2=true∨¬ checkV (rdV 8 s).1=0):=by have hq:=hc9;simpa using hq
  refine WP.skip ?_;refine hK7 _ ?_;refine wr ?_;refine ug th27 hb6 ?_;refine u_step0 (g_sta rfl rfl th27 rfl hb2_6 (by first | (simp;done) | (simp [D.leaves,D.width,valCells];done) | decide) fun o15 hb15 hk15=>?_);have hb4_15:=(hk15 _ (by omega)).trans hb4_6;have hb6_15:=(hk15 _ (by omega)).trans hb6;refine u_nil ?_;refine WP.ret ?_;refine retCM_ok (resis_agg rfl th27 rfl hb15 rfl rfl rfl) ?_ (by omega) (by rw [rdAll_ok hz];exact hb4_15) (fun t ht=>(hk15 t (by omega)).trans ((hk6 t (by omega)).trans ((hk5 t (by omega)).trans ((hk4 t (by omega)).trans ((hk2 t (by omega)))))));rw [rdAll_ok hz];rw [encV_eq];exact D.le_refl _
end Go.Proofs.YtpkcbdhjnnnkbaaGreat.Abs

set_option linter.unusedVariables false
set_option linter.unusedSimpArgs false
set_option maxRecDepth 10000
set_option maxHeartbeats 1000000
namespace Go.Proofs.YtpkcbdhjnnnkbaaGreat.Abs
open Go
def rdR:Nat→SB→Val×SB
 | 0,s=>(.mk 0 0 [] [] [],((rdByte s).2.1,true))
 | d+1,s=>
  if (rdByte s).2.2=true then (.mk 0 0 [] [] [],(rdByte s).2)
  else if (rdByte s).1=1 then (.mk (rdByte s).1 0 [] [] [],(rdByte s).2)
  else if (rdByte s).1=2 then (.mk (rdByte s).1 (rdByte (rdByte s).2).1 [] [] [],(rdByte (rdByte s).2).2)
  else if (rdByte s).1=3 then (.mk (rdByte s).1 (intS (rdByte s).2).1 [] [] [],(intS (rdByte s).2).2)
  else if (rdByte s).1=4∨(rdByte s).1=5 then (.mk (rdByte s).1 0 (txtS (rdByte s).2 4096).1 [] [],(txtS (rdByte s).2 4096).2)
  else if (rdByte s).1=6∨(rdByte s).1=7 then
   (.mk (rdByte s).1 0 [] (rdIs (rdR d) (decide ((rdByte s).1=7)) (cntS (rdByte s).2 4096).1.toNat (cntS (rdByte s).2 4096).2 [] []).1 (rdIs (rdR d) (decide ((rdByte s).1=7)) (cntS (rdByte s).2 4096).1.toNat (cntS (rdByte s).2 4096).2 [] []).2.1,
    (rdIs (rdR d) (decide ((rdByte s).1=7)) (cntS (rdByte s).2 4096).1.toNat (cntS (rdByte s).2 4096).2 [] []).2.2)
  else (.mk (rdByte s).1 0 [] [] [],((rdByte s).2.1,true))
theorem rdR_le:∀ (d:Nat) (s:SB),(rdR d s).2.1.length≤s.1.length
 | 0,s=>byte_le s
 | d+1,s=>by
  have hb:=byte_le s;simp only [rdR]
  repeat' split
  ·exact hb
  ·exact hb
  ·exact Nat.le_trans (byte_le _) hb
  ·exact Nat.le_trans (int_le _) hb
  ·exact Nat.le_trans (txt_le _ _) hb
  ·exact Nat.le_trans (rdIs_le (rdR_le d) _ _ _ _ _) (Nat.le_trans (cnt_le _ _) hb)
  ·exact hb
theorem rdR_sz:∀ (d:Nat) (s:SB),s.1.length≤4611686018427387904→szV (rdR d s).1+pot (rdR d s).2≤pot s+(if s.2=true then 1 else 0)
 | 0,s,hx=>by
  have h1:=pot_byte s;have h2:pot ((rdByte s).2.1,true)≤pot (rdByte s).2:=by rw [pot_no];unfold pot;omega
  simp only [rdR,szV,szVs,szN,List.length_nil];split at h1 <;> simp_all <;> omega
 | d+1,s,hx=>by
  have h1:=pot_byte s;have hb:=byte_le s;have h2:pot ((rdByte s).2.1,true)≤pot (rdByte s).2:=by rw [pot_no];unfold pot;omega
  have h3:=pot_byte (rdByte s).2;have h4:=pot_int (rdByte s).2;have h5:=pot_txt (rdByte s).2 4096 (by omega);have h6:=pot_cnt (rdByte s).2 4096;have h7:=rdIs_sz (rd:=rdR d) (rdR_le d) (rdR_sz d) (decide ((rdByte s).1=7)) (cntS (rdByte s).2 4096).1.toNat (cntS (rdByte s).2 4096).2 [] [] (by have:=cnt_le (rdByte s).2 4096;omega);simp only [szVs,szN] at h7;have h8:1+pot (rdByte s).2≤pot s+(if s.2=true then 1 else 0):=by split at h1 <;> simp_all <;> omega
  obtain ⟨q,hq⟩:∃ q:Nat,(if s.2=true then 1 else 0)=q:=⟨_,rfl⟩;rw [hq] at h8 ⊢;clear h1 hq;simp only [rdR]
  repeat' split
  all_goals simp only [szV,szVs,szN,List.length_nil]
  all_goals omega
theorem rdR_rng:∀ (d:Nat) (s:SB),rngV (rdR d s).1
 | 0,s=>⟨by omega,trivial⟩
 | d+1,s=>by
  have hb:=byte_rng (rdByte s).2;have hi:=int_rng (rdByte s).2;simp only [rdR]
  repeat' split
  ·exact ⟨by omega,trivial⟩
  ·exact ⟨by omega,trivial⟩
  ·exact ⟨by omega,trivial⟩
  ·exact ⟨by omega,trivial⟩
  ·exact ⟨by omega,trivial⟩
  ·exact ⟨by omega,rngs_rdIs (rdR_rng d) _ _ _ _ _ trivial⟩
  ·exact ⟨by omega,trivial⟩
def rdAllR (s:SB):Val×SB:=if s.2=true then (.mk 0 0 [] [] [],s) else if (rdR 8 s).2.2=true∨¬ checkV (rdR 8 s).1=0 then (.mk 0 0 [] [] [],((rdR 8 s).2.1,true)) else rdR 8 s
theorem rdAllR_bad {s:SB} (h:s.2=true):rdAllR s=(.mk 0 0 [] [] [],s):=if_pos h
theorem rdAllR_no {s:SB} (h0:¬ s.2=true) (h:(rdR 8 s).2.2=true∨¬ checkV (rdR 8 s).1=0):rdAllR s=(.mk 0 0 [] [] [],((rdR 8 s).2.1,true)):=(if_neg h0).trans (if_pos h)
theorem rdAllR_ok {s:SB} (h0:¬ s.2=true) (h:¬ ((rdR 8 s).2.2=true∨¬ checkV (rdR 8 s).1=0)):rdAllR s=rdR 8 s:=(if_neg h0).trans (if_neg h)
theorem fn145:FnOkC Tryz.prog 145 81 [.cell 4 27] (bodyOf Tryz.f145):=⟨Tryz.f145,Tryz.func145,by kernel_rfl,by decide,by kernel_rfl,by kernel_rfl⟩
theorem s145z (s:SB):MSpec Tryz.prog 145 (fun k=>[.loc k 0,.d (.int .i64 0)]) (srcS s) (srcS (rdR 0 s).2) (.d (encV (rdR 0 s).1)):=by
 refine MSpec.ofC tabOk fn145 (fun _=>by simp) (fun _=>by first | exact srcS_lts _ _ | simp [SV.lts,SV.lt]) fun o nk k hkn hM=>?_;refine wr ?_;refine u_step (g_alloc th27 rfl fun o2 hb2 hk2=>?_);have hM_2:=(hk2 _ (by omega)).trans hM;refine u_nil ?_;refine wr ?_;refine u_step (o_moveV (v:=.loc _ _) rfl ?_);refine u_step (g_mcall (s95 s) hM_2 rfl fun o4 hb4 hk4=>?_);have hb2_4:=(hk4 _ (by omega)).trans hb2;refine u_step (o_bu rfl th27 rfl rfl ?_);refine u_step (g_alloc th27 rfl fun o5 hb5 hk5=>?_);have hb2_5:=(hk5 _ (by omega)).trans hb2_4;have hb4_5:=(hk5 _ (by omega)).trans hb4;refine u_step0 (g_sta rfl rfl th27 rfl hb5 (by first | (simp;done) | (simp [D.leaves,D.width,valCells];done) | decide) fun o6 hb6 hk6=>?_);have hb2_6:=(hk6 _ (by omega)).trans hb2_5;have hb4_6:=(hk6 _ (by omega)).trans hb4_5;refine u_nil ?_;refine WP.seq fun K7 hK7=>?_;refine wr ?_;refine um ?_;refine ub ?_;refine u_nil ?_;refine wc (fun hc9=>?_) (fun hc9=>?_) <;> try simp only [Q0,Q1,Q2,Q3,Q4,Q5,Q6,Q7,Q8,ge_iff_le,gt_iff_lt] at hc9
 ·
  refine WP.reg tabOk rfl ?_;refine u_step (o_moveV (v:=.loc _ _) rfl ?_);refine u_step (o_nc rfl hb4_6 ?_);refine uf th63 th4 hb4_6 ?_;refine u_step0 (g_st rfl rfl rfl th4 rfl hb4_6 (by first | (simp;done) | (simp [D.leaves,D.width];done) | decide) fun o10 hb10 hk10=>?_);have hb2_10:=(hk10 _ (by omega)).trans hb2_6;have hb6_10:=(hk10 _ (by omega)).trans hb6;refine u_nil ?_;refine hK7 _ ?_;refine WP.seq fun K11 hK11=>?_;refine wr ?_;refine u_step (o_moveV (v:=.loc _ _) rfl ?_);refine u_step (o_nc rfl hb10 ?_);refine uf th63 th4 hb10 ?_;refine ul th4 hb10 ?_;refine u_nil ?_;refine wc (fun hc13=>?_) (fun hc13=>?_) <;> try simp only [Q0,Q1,Q2,Q3,Q4,Q5,Q6,Q7,Q8,ge_iff_le,gt_iff_lt] at hc13
  ·
   refine wr ?_;refine u_step (o_bu rfl th27 rfl rfl ?_);refine u_step0 (g_sta rfl rfl th27 rfl hb2_10 (by first | (simp;done) | (simp [D.leaves,D.width,valCells];done) | decide) fun o15 hb15 hk15=>?_);have hb6_15:=(hk15 _ (by omega)).trans hb6_10;have hb10_15:=(hk15 _ (by omega)).trans hb10;refine u_nil ?_;refine WP.ret ?_;refine retCM_ok (resis_agg rfl th27 rfl hb15 rfl rfl rfl) ?_ (by omega) hb10_15 (fun t ht=>(hk15 t (by omega)).trans ((hk10 t (by omega)).trans ((hk6 t (by omega)).trans ((hk5 t (by omega)).trans ((hk4 t (by omega)).trans ((hk2 t (by omega))))))));exact leV0 _ _ _
  ·
   simp at hc13
 ·
  simp at hc9
theorem s145 (d:Nat) (hdb:d≤8) (ih:∀ s:SB,s.1.length≤4611686018427387904→MSpec Tryz.prog 145 (fun k=>[.loc k 0,.d (.int .i64 d)]) (srcS s) (srcS (rdR d s).2) (.d (encV (rdR d s).1))) (s:SB) (hx:s.1.length≤4611686018427387904):MSpec Tryz.prog 145 (fun k=>[.loc k 0,.d (.int .i64 ((d+1:Nat):Int))]) (srcS s) (srcS (rdR (d+1) s).2) (.d (encV (rdR (d+1) s).1)):=by
 have hb1:=byte_le s;have hcr:=cnt_rng (rdByte s).2 4096 (by decide);have hcl:=cnt_le (rdByte s).2 4096;have hde:IntKind.i64.wrap (((d+1:Nat):Int) - 1)=(d:Int):=by rw [wrap_i64 (by omega) (by omega)];omega
 refine MSpec.ofC tabOk fn145 (fun _=>by simp) (fun _=>by first | exact srcS_lts _ _ | simp [SV.lts,SV.lt]) fun o nk k hkn hM=>?_;refine wr ?_;refine u_step (g_alloc th27 rfl fun o2 hb2 hk2=>?_);have hM_2:=(hk2 _ (by omega)).trans hM;refine u_nil ?_;refine wr ?_;refine u_step (o_moveV (v:=.loc _ _) rfl ?_);refine u_step (g_mcall (s95 s) hM_2 rfl fun o4 hb4 hk4=>?_);have hb2_4:=(hk4 _ (by omega)).trans hb2;refine u_step (o_bu rfl th27 rfl rfl ?_);refine u_step (g_alloc th27 rfl fun o5 hb5 hk5=>?_);have hb2_5:=(hk5 _ (by omega)).trans hb2_4;have hb4_5:=(hk5 _ (by omega)).trans hb4;refine u_step0 (g_sta rfl rfl th27 rfl hb5 (by first | (simp;done) | (simp [D.leaves,D.width,valCells];done) | decide) fun o6 hb6 hk6=>?_);have hb2_6:=(hk6 _ (by omega)).trans hb2_5;have hb4_6:=(hk6 _ (by omega)).trans hb4_5;refine u_nil ?_;refine WP.seq fun K7 hK7=>?_;refine wr ?_;refine um ?_;refine ub ?_;refine u_nil ?_;refine wc (fun hc9=>?_) (fun hc9=>?_) <;> try simp only [Q0,Q1,Q2,Q3,Q4,Q5,Q6,Q7,Q8,ge_iff_le,gt_iff_lt] at hc9
 ·
  have hq:=hc9;simp at hq;omega
 ·
  refine WP.skip ?_;refine hK7 _ ?_;refine WP.seq fun K10 hK10=>?_;refine wr ?_;refine u_step (o_moveV (v:=.loc _ _) rfl ?_);refine u_step (o_nc rfl hb4_6 ?_);refine uf th63 th4 hb4_6 ?_;refine ul th4 hb4_6 ?_;refine u_nil ?_;refine wc (fun hc12=>?_) (fun hc12=>?_) <;> try simp only [Q0,Q1,Q2,Q3,Q4,Q5,Q6,Q7,Q8,ge_iff_le,gt_iff_lt] at hc12
  ·
   have g0:(rdByte s).2.2=true:=by simpa using hc12
   have hr:rdR (d+1) s=(.mk 0 0 [] [] [],(rdByte s).2):=by simp only [rdR];rw [if_pos g0]
   refine wr ?_;refine u_step (o_bu rfl th27 rfl rfl ?_);refine u_step0 (g_sta rfl rfl th27 rfl hb2_6 (by first | (simp;done) | (simp [D.leaves,D.width,valCells];done) | decide) fun o14 hb14 hk14=>?_);have hb4_14:=(hk14 _ (by omega)).trans hb4_6;have hb6_14:=(hk14 _ (by omega)).trans hb6;refine u_nil ?_;refine WP.ret ?_;refine retCM_ok (resis_agg rfl th27 rfl hb14 rfl rfl rfl) ?_ (by omega) (by rw [hr];exact hb4_14) (fun t ht=>(hk14 t (by omega)).trans ((hk6 t (by omega)).trans ((hk5 t (by omega)).trans ((hk4 t (by omega)).trans ((hk2 t (by omega)))))));rw [hr];exact leV0 _ _ _
  ·
   have g0:¬ (rdByte s).2.2=true:=by simpa using hc12
   refine WP.skip ?_;refine hK10 _ ?_;refine WP.seq fun K15 hK15=>?_;refine wr ?_;refine uf th27 th3 hb6 ?_;refine ul th3 hb6 ?_;refine u_nil ?_;refine WP.block ?_;refine wr ?_;refine ub ?_;refine ua ?_;refine u_nil ?_;refine wc (fun hc18=>?_) (fun hc18=>?_) <;> try simp only [Q0,Q1,Q2,Q3,Q4,Q5,Q6,Q7,Q8,ge_iff_le,gt_iff_lt] at hc18
   ·
    have g1:(rdByte s).1=1:=by simpa using hc18
    have hr:rdR (d+1) s=(.mk (rdByte s).1 0 [] [] [],(rdByte s).2):=by simp only [rdR];rw [if_neg g0,if_pos g1]
    refine WP.skip ?_;refine hK15 _ ?_;refine wr ?_;refine ug th27 hb6 ?_;refine u_step0 (g_sta rfl rfl th27 rfl hb2_6 (by first | (simp;done) | (simp [D.leaves,D.width,valCells];done) | decide) fun o20 hb20 hk20=>?_);have hb4_20:=(hk20 _ (by omega)).trans hb4_6;have hb6_20:=(hk20 _ (by omega)).trans hb6;refine u_nil ?_;refine WP.ret ?_;refine retCM_ok (resis_agg rfl th27 rfl hb20 rfl rfl rfl) ?_ (by omega) (by rw [hr];exact hb4_20) (fun t ht=>(hk20 t (by omega)).trans ((hk6 t (by omega)).trans ((hk5 t (by omega)).trans ((hk4 t (by omega)).trans ((hk2 t (by omega)))))));rw [hr];exact leV0 _ _ _
   ·
    have g1:¬ (rdByte s).1=1:=by simpa using hc18
    refine wr ?_;refine ub ?_;refine ua ?_;refine u_nil ?_;refine wc (fun hc22=>?_) (fun hc22=>?_) <;> try simp only [Q0,Q1,Q2,Q3,Q4,Q5,Q6,Q7,Q8,ge_iff_le,gt_iff_lt] at hc22
    ·
     have g2:(rdByte s).1=2:=by simpa using hc22
     have hr:rdR (d+1) s=(.mk (rdByte s).1 (rdByte (rdByte s).2).1 [] [] [],(rdByte (rdByte s).2).2):=by simp only [rdR];rw [if_neg g0,if_neg g1,if_pos g2]
     refine WP.reg tabOk rfl ?_;refine u_step (o_moveV (v:=.loc _ _) rfl ?_);refine u_step (g_mcall (s95 _) hb4_6 rfl fun o23 hb23 hk23=>?_);have hb2_23:=(hk23 _ (by omega)).trans hb2_6;have hb6_23:=(hk23 _ (by omega)).trans hb6;refine uf th27 th3 hb6_23 ?_;refine u_step0 (g_st rfl rfl rfl th3 rfl hb6_23 (by first | (simp;done) | (simp [D.leaves,D.width];done) | decide) fun o24 hb24 hk24=>?_);have hb2_24:=(hk24 _ (by omega)).trans hb2_23;have hb23_24:=(hk24 _ (by omega)).trans hb23;refine u_nil ?_;refine hK15 _ ?_;refine wr ?_;refine ug th27 hb24 ?_;refine u_step0 (g_sta rfl rfl th27 rfl hb2_24 (by first | (simp;done) | (simp [D.leaves,D.width,valCells];done) | decide) fun o26 hb26 hk26=>?_);have hb23_26:=(hk26 _ (by omega)).trans hb23_24;have hb24_26:=(hk26 _ (by omega)).trans hb24;refine u_nil ?_;refine WP.ret ?_;refine retCM_ok (resis_agg rfl th27 rfl hb26 rfl rfl rfl) ?_ (by omega) (by rw [hr];exact hb23_26) (fun t ht=>(hk26 t (by omega)).trans ((hk24 t (by omega)).trans ((hk23 t (by omega)).trans ((hk6 t (by omega)).trans ((hk5 t (by omega)).trans ((hk4 t (by omega)).trans ((hk2 t (by omega)))))))));rw [hr];exact leV0 _ _ _
    ·
     have g2:¬ (rdByte s).1=2:=by simpa using hc22
     refine wr ?_;refine ub ?_;refine ua ?_;refine u_nil ?_;refine wc (fun hc28=>?_) (fun hc28=>?_) <;> try simp only [Q0,Q1,Q2,Q3,Q4,Q5,Q6,Q7,Q8,ge_iff_le,gt_iff_lt] at hc28
     ·
      have g3:(rdByte s).1=3:=by simpa using hc28
      have hr:rdR (d+1) s=(.mk (rdByte s).1 (intS (rdByte s).2).1 [] [] [],(intS (rdByte s).2).2):=by simp only [rdR];rw [if_neg g0,if_neg g1,if_neg g2,if_pos g3]
      refine WP.reg tabOk rfl ?_;refine u_step (o_moveV (v:=.loc _ _) rfl ?_);refine u_step (g_mcall (s171 _) hb4_6 rfl fun o29 hb29 hk29=>?_);have hb2_29:=(hk29 _ (by omega)).trans hb2_6;have hb6_29:=(hk29 _ (by omega)).trans hb6;refine uf th27 th3 hb6_29 ?_;refine u_step0 (g_st rfl rfl rfl th3 rfl hb6_29 (by first | (simp;done) | (simp [D.leaves,D.width];done) | decide) fun o30 hb30 hk30=>?_);have hb2_30:=(hk30 _ (by omega)).trans hb2_29;have hb29_30:=(hk30 _ (by omega)).trans hb29;refine u_nil ?_;refine hK15 _ ?_;refine wr ?_;refine ug th27 hb30 ?_;refine u_step0 (g_sta rfl rfl th27 rfl hb2_30 (by first | (simp;done) | (simp [D.leaves,D.width,valCells];done) | decide) fun o32 hb32 hk32=>?_);have hb29_32:=(hk32 _ (by omega)).trans hb29_30;have hb30_32:=(hk32 _ (by omega)).trans hb30;refine u_nil ?_;refine WP.ret ?_;refine retCM_ok (resis_agg rfl th27 rfl hb32 rfl rfl rfl) ?_ (by omega) (by rw [hr];exact hb29_32) (fun t ht=>(hk32 t (by omega)).trans ((hk30 t (by omega)).trans ((hk29 t (by omega)).trans ((hk6 t (by omega)).trans ((hk5 t (by omega)).trans ((hk4 t (by omega)).trans ((hk2 t (by omega)))))))));rw [hr];exact leV0 _ _ _
     ·
      have g3:¬ (rdByte s).1=3:=by simpa using hc28
      refine WP.seqJ ⟨al [(0,.loc k 0),(1,.d (.int .i64 ((d+1:Nat):Int))),(4,.loc nk 0),(5,.loc (nk+1) 0),(22,.d (.int .i64 (rdByte s).1)),(38,.d (.bool (decide ((rdByte s).1=4∨(rdByte s).1=5))))],o6,((nk+1)+1)⟩ ?_ ?_
      ·
       refine wr ?_;refine ub ?_;refine ua ?_;refine u_nil ?_;refine wc (fun hc34=>?_) (fun hc34=>?_) <;> try simp only [Q0,Q1,Q2,Q3,Q4,Q5,Q6,Q7,Q8,ge_iff_le,gt_iff_lt] at hc34
       ·
        try (have g4:(rdByte s).1=4∨(rdByte s).1=5:=hc34)
        try (have hr:rdR (d+1) s=(.mk (rdByte s).1 0 (txtS (rdByte s).2 4096).1 [] [],(txtS (rdByte s).2 4096).2):=by simp only [rdR];rw [if_neg g0,if_neg g1,if_neg g2,if_neg g3,if_pos g4])
        refine WP.skip ?_;refine Le.al ?_;simp only [List.forall_mem_cons];have hl2:=hc34;refine ⟨rfl,rfl,rfl,rfl,rfl,?_,by simp⟩;refine congrArg (fun z=>SV.d (.bool z)) ?_;rw [Bool.eq_iff_iff,decide_eq_true_iff];simp at hl2 ⊢;omega
       ·
        try (have g4:¬ ((rdByte s).1=4∨(rdByte s).1=5):=hc34)
        refine WP.reg tabOk rfl ?_;refine ub ?_;refine ua ?_;refine u_nil ?_;refine Le.al ?_;simp only [List.forall_mem_cons];have hl2:=hc34;refine ⟨rfl,rfl,rfl,rfl,rfl,?_,by simp⟩;refine congrArg (fun z=>SV.d (.bool z)) ?_;rw [Bool.eq_iff_iff,decide_eq_true_iff];simp at hl2 ⊢;omega
      ·
       refine wc (fun hc35=>?_) (fun hc35=>?_) <;> try simp only [Q0,Q1,Q2,Q3,Q4,Q5,Q6,Q7,Q8,ge_iff_le,gt_iff_lt] at hc35
       ·
        try (have g4:(rdByte s).1=4∨(rdByte s).1=5:=hc35)
        try (have hr:rdR (d+1) s=(.mk (rdByte s).1 0 (txtS (rdByte s).2 4096).1 [] [],(txtS (rdByte s).2 4096).2):=by simp only [rdR];rw [if_neg g0,if_neg g1,if_neg g2,if_neg g3,if_pos g4])
        refine WP.reg tabOk rfl ?_;refine u_step (o_moveV (v:=.loc _ _) rfl ?_);refine u_step (g_mcall (s96 _ _ (by omega)) hb4_6 rfl fun o36 hb36 hk36=>?_);have hb2_36:=(hk36 _ (by omega)).trans hb2_6;have hb6_36:=(hk36 _ (by omega)).trans hb6;refine uf th27 th9 hb6_36 ?_;refine u_step0 (g_st rfl rfl rfl th9 rfl hb6_36 (by first | (simp;done) | (simp [D.leaves,D.width];done) | decide) fun o37 hb37 hk37=>?_);have hb2_37:=(hk37 _ (by omega)).trans hb2_36;have hb36_37:=(hk37 _ (by omega)).trans hb36;refine u_nil ?_;refine hK15 _ ?_;refine wr ?_;refine ug th27 hb37 ?_;refine u_step0 (g_sta rfl rfl th27 rfl hb2_37 (by first | (simp;done) | (simp [D.leaves,D.width,valCells];done) | decide) fun o39 hb39 hk39=>?_);have hb36_39:=(hk39 _ (by omega)).trans hb36_37;have hb37_39:=(hk39 _ (by omega)).trans hb37;refine u_nil ?_;refine WP.ret ?_;refine retCM_ok (resis_agg rfl th27 rfl hb39 rfl rfl rfl) ?_ (by omega) (by rw [hr];exact hb36_39) (fun t ht=>(hk39 t (by omega)).trans ((hk37 t (by omega)).trans ((hk36 t (by omega)).trans ((hk6 t (by omega)).trans ((hk5 t (by omega)).trans ((hk4 t (by omega)).trans ((hk2 t (by omega)))))))));rw [hr];exact leV0 _ _ _
       ·
        try (have g4:¬ ((rdByte s).1=4∨(rdByte s).1=5):=hc35)
        refine WP.seqJ ⟨al [(0,.loc k 0),(1,.d (.int .i64 ((d+1:Nat):Int))),(4,.loc nk 0),(5,.loc (nk+1) 0),(22,.d (.int .i64 (rdByte s).1)),(44,.d (.bool (decide ((rdByte s).1=6∨(rdByte s).1=7))))],o6,((nk+1)+1)⟩ ?_ ?_
        ·
         refine wr ?_;refine ub ?_;refine ua ?_;refine u_nil ?_;refine wc (fun hc41=>?_) (fun hc41=>?_) <;> try simp only [Q0,Q1,Q2,Q3,Q4,Q5,Q6,Q7,Q8,ge_iff_le,gt_iff_lt] at hc41
         ·
          try (have g6:(rdByte s).1=6∨(rdByte s).1=7:=hc41)
          try (have hr:rdR (d+1) s=(.mk (rdByte s).1 0 [] (rdIs (rdR d) (decide ((rdByte s).1=7)) (cntS (rdByte s).2 4096).1.toNat (cntS (rdByte s).2 4096).2 [] []).1 (rdIs (rdR d) (decide ((rdByte s).1=7)) (cntS (rdByte s).2 4096).1.toNat (cntS (rdByte s).2 4096).2 [] []).2.1,(rdIs (rdR d) (decide ((rdByte s).1=7)) (cntS (rdByte s).2 4096).1.toNat (cntS (rdByte s).2 4096).2 [] []).2.2):=by simp only [rdR];rw [if_neg g0,if_neg g1,if_neg g2,if_neg g3,if_neg g4,if_pos g6])
          refine WP.skip ?_;refine Le.al ?_;simp only [List.forall_mem_cons];have hl2:=hc41;refine ⟨rfl,rfl,rfl,rfl,rfl,?_,by simp⟩;refine congrArg (fun z=>SV.d (.bool z)) ?_;rw [Bool.eq_iff_iff,decide_eq_true_iff];simp at hl2 ⊢;omega
         ·
          try (have g6:¬ ((rdByte s).1=6∨(rdByte s).1=7):=hc41)
          try (have hr:rdR (d+1) s=(.mk (rdByte s).1 0 [] [] [],((rdByte s).2.1,true)):=by simp only [rdR];rw [if_neg g0,if_neg g1,if_neg g2,if_neg g3,if_neg g4,if_neg g6])
          refine WP.reg tabOk rfl ?_;refine ub ?_;refine ua ?_;refine u_nil ?_;refine Le.al ?_;simp only [List.forall_mem_cons];have hl2:=hc41;refine ⟨rfl,rfl,rfl,rfl,rfl,?_,by simp⟩;refine congrArg (fun z=>SV.d (.bool z)) ?_;rw [Bool.eq_iff_iff,decide_eq_true_iff];simp at hl2 ⊢;omega
        ·
         refine wc (fun hc42=>?_) (fun hc42=>?_) <;> try simp only [Q0,Q1,Q2,Q3,Q4,Q5,Q6,Q7,Q8,ge_iff_le,gt_iff_lt] at hc42
         ·
          try (have g6:(rdByte s).1=6∨(rdByte s).1=7:=hc42)
          try (have hr:rdR (d+1) s=(.mk (rdByte s).1 0 [] (rdIs (rdR d) (decide ((rdByte s).1=7)) (cntS (rdByte s).2 4096).1.toNat (cntS (rdByte s).2 4096).2 [] []).1 (rdIs (rdR d) (decide ((rdByte s).1=7)) (cntS (rdByte s).2 4096).1.toNat (cntS (rdByte s).2 4096).2 [] []).2.1,(rdIs (rdR d) (decide ((rdByte s).1=7)) (cntS (rdByte s).2 4096).1.toNat (cntS (rdByte s).2 4096).2 [] []).2.2):=by simp only [rdR];rw [if_neg g0,if_neg g1,if_neg g2,if_neg g3,if_neg g4,if_pos g6])
          refine wr ?_;refine u_step (o_moveV (v:=.loc _ _) rfl ?_);refine u_step (g_mcall (s94 _ 4096) hb4_6 rfl fun o44 hb44 hk44=>?_);have hb2_44:=(hk44 _ (by omega)).trans hb2_6;have hb6_44:=(hk44 _ (by omega)).trans hb6;refine ua ?_;refine u_nil ?_;refine wr ?_;refine ua ?_;refine u_nil ?_;refine WP.block ?_;refine WP.loopL (ι:=Nat×SB×List Val×List Str×SV×Option Nat×SV×Option Nat×Nat×Nat×(Nat→Option AO)×Nat) (fun ⟨i,s1,xs,ns,c,q,c2,q2,a,b,o2,nk2⟩=>⟨al [(0,.loc k 0),(1,.d (.int .i64 ((d+1:Nat):Int))),(4,.loc nk 0),(5,.loc (nk+1) 0),(6,.d (.int .i64 (cntS (rdByte s).2 4096).1)),(7,.d (.int .i64 i))],o2,nk2⟩) (fun ⟨i,s1,xs,ns,c,q,c2,q2,a,b,o2,nk2⟩=>i≤(cntS (rdByte s).2 4096).1.toNat∧nk+2≤nk2∧s1.1.length≤4611686018427387904∧xs.length≤i∧ns.length≤i∧rdIs (rdR d) (decide ((rdByte s).1=7)) ((cntS (rdByte s).2 4096).1.toNat - i) s1 xs ns=rdIs (rdR d) (decide ((rdByte s).1=7)) (cntS (rdByte s).2 4096).1.toNat (cntS (rdByte s).2 4096).2 [] []∧o2 k=some (.box (srcS s1))∧o2 (nk+1)=some (.box [.d (.int .i64 (rdByte s).1),.d (.int .i64 0),.d (.str []),c,c2])∧o2 nk=some (.box [.d (.int .i64 0),.d (.int .i64 0),.d (.str []),.d .nil,.d .nil])∧dstOf o2 27 5 c=some (q,encVs xs)∧(∀ t,q=some t→nk+2≤t∧t < nk2∧t=a)∧dstOf o2 9 1 c2=some (q2,ns.map .str)∧(∀ t,q2=some t→nk+2≤t∧t < nk2∧t=b)∧a < nk2∧b < nk2∧a≠b∧∀ t,t < nk∧t≠k→o2 t=o t) (fun ⟨i,s1,xs,ns,c,q,c2,q2,a,b,o2,nk2⟩=>(cntS (rdByte s).2 4096).1.toNat - i) (fun ⟨i,s1,xs,ns,c,q,c2,q2,a,b,o2,nk2⟩ hA=>?_) ⟨0,(cntS (rdByte s).2 4096).2,[],[],.d .nil,none,.d .nil,none,0,1,o44,((nk+1)+1)⟩ ?_ ?_
          ·
           obtain ⟨hle,hnk,hsl,hxl,hnl,heq,hsk,hob,hzb,hd,hq,hd2,hq2,hal,hbl,hab,hfr⟩:=hA;refine WP.seq fun K46 hK46=>?_;refine wr ?_;refine um ?_;refine um ?_;refine ub ?_;refine um ?_;apply gT
           ·rfl
           ·intro hg;refine o_moveV (v:=.loc _ _) rfl ⟨rfl,rfl,rfl⟩
           apply gT
           ·rfl
           ·intro hg;try simp only [hg,ct];try simp only [hg,ct,Bt]
            refine o_nc rfl hsk ⟨rfl,rfl,rfl⟩
           apply gT
           ·rfl
           ·intro hg;try simp only [hg,ct];try simp only [hg,ct,Bt]
            exact pf th63 th4 hsk
           apply gT
           ·rfl
           ·intro hg;try simp only [hg,ct];try simp only [hg,ct,Bt]
            exact pl th4 hsk
           apply gT
           ·rfl
           ·intro hg;try simp only [hg,ct];try simp only [hg,ct,Bt]
            exact pN
           refine uA ?_;refine u_nil ?_;refine wc (fun hc48=>?_) (fun hc48=>?_) <;> try simp only [Q0,Q1,Q2,Q3,Q4,Q5,Q6,Q7,Q8,ge_iff_le,gt_iff_lt] at hc48
           ·
            have hgo:=hc48;simp at hgo;have hlt:i < (cntS (rdByte s).2 4096).1.toNat:=by omega
            have hbad:¬ s1.2=true:=by rw [hgo.2];decide
            refine WP.skip ?_;refine hK46 _ ?_;refine WP.seq fun K49 hK49=>?_;refine WP.block ?_;refine WP.seq fun K50 hK50=>?_;refine wr ?_;refine uf th27 th3 hob ?_;refine ul th3 hob ?_;refine ub ?_;refine u_nil ?_;refine wc (fun hc52=>?_) (fun hc52=>?_) <;> try simp only [Q0,Q1,Q2,Q3,Q4,Q5,Q6,Q7,Q8,ge_iff_le,gt_iff_lt] at hc52
            ·
             have h7:decide ((rdByte s).1=7)=true:=by simpa using hc52
             refine WP.dr3 [.q 0 1,.q 0 1,.q 0 0,.w 0,.q 1 1,.w 1,.q 2 2,.w 2] [3,5,7] nk2 (nk2+1) (nk2+1) tabOk (by kernel_rfl) rfl (by kernel_rfl) (by kernel_rfl) ?_;apply Exists.intro;apply Exists.intro;apply Exists.intro;refine e_step2 rfl rfl (o_fa_loc rfl th27 rfl rfl th22 (by decide) hob ⟨rfl,rfl,rfl⟩) ?_ ?_;rotate_left;refine e_step2 rfl rfl (o_ld_locV rfl th22 rfl hob rfl ⟨rfl,rfl,rfl⟩) ?_ ?_;rotate_left;refine e_step rfl (o_moveV (v:=.loc _ _) rfl ⟨rfl,rfl,rfl⟩) ?_;refine e_w rfl rfl (w_mcall (s96 s1 32 (by omega)) hsk rfl ⟨rfl,rfl,rfl⟩) ?_;refine e_step rfl (o_bs rfl th22 rfl th9 rfl rfl (by decide) rfl (by decide) (by decide) ⟨rfl,rfl,rfl⟩) ?_;refine e_w rfl rfl (w_apD rfl th22 rfl th9 rfl rfl (by decide) rfl (dst_keep hd2 fun t e=>(by have:=hq2 t e;exact upd_ne _ _ (by omega))) (by simp only [List.length_map,List.length_cons,List.length_nil];omega) (by simp only [List.length_map,List.length_cons,List.length_nil];omega) ⟨rfl,rfl,rfl⟩) ?_;refine e_step rfl (o_fa_loc rfl th27 rfl rfl th22 (by decide) (((upd_ne _ _ (by omega)).trans (killo_ne (fun e=>by have:=hq2 _ e;omega))).trans ((upd_ne _ _ (by omega)).trans hob)) ⟨rfl,rfl,rfl⟩) ?_;refine e_w0 rfl rfl (w_stV rfl rfl (upd_same _ _ _) th22 rfl (((upd_ne _ _ (by omega)).trans (killo_ne (fun e=>by have:=hq2 _ e;omega))).trans ((upd_ne _ _ (by omega)).trans hob)) (by simp) ⟨rfl,rfl,rfl⟩) ?_;refine e_nil rfl fun o56 ho56=>?_;have hbZ_56:=(ho56 _).trans ((upd_ne _ _ (by omega)).trans (((upd_ne _ _ (by omega)).trans (killo_ne (fun e=>by have:=hq2 _ e;omega))).trans ((upd_ne _ _ (by omega)).trans hzb)));have hdC_56:=dst_keep (o':=o56) hd fun t e=>(by have:=hq t e;exact (ho56 t).trans ((upd_ne _ _ (by omega)).trans (((upd_ne _ _ (by omega)).trans (killo_ne (fun e=>by have:=hq2 _ e;omega))).trans (upd_ne _ _ (by omega)))));have hbM_56:=(ho56 _).trans ((upd_ne _ _ (by omega)).trans (((upd_ne _ _ (by omega)).trans (killo_ne (fun e=>by have:=hq2 _ e;omega))).trans (upd_same _ _ _)));have hbr54_56:=(ho56 _).trans ((upd_ne _ _ (by omega)).trans (upd_same _ _ _));have hbB_56:=(ho56 _).trans (upd_same _ _ _);have hk56:∀ t,t < nk∧t≠k→o56 t=o2 t:=fun t ht=>(ho56 t).trans ((upd_ne _ _ (by omega)).trans (((upd_ne _ _ (by omega)).trans (killo_ne (fun e=>by have:=hq2 _ e;omega))).trans (upd_ne _ _ (by omega))))
             ·
              refine hK50 _ ?_;refine WP.dr3 [.q 0 1,.q 0 1,.q 0 0,.q 0 0,.q 0 0,.w 0,.q 1 1,.w 1,.q 2 2,.w 2] [5,7,9] (nk2+1) ((nk2+1)+1) ((nk2+1)+1) tabOk (by kernel_rfl) rfl (by kernel_rfl) (by kernel_rfl) ?_;apply Exists.intro;apply Exists.intro;apply Exists.intro;refine e_step2 rfl rfl (o_fa_loc rfl th27 rfl rfl th25 (by decide) hbB_56 ⟨rfl,rfl,rfl⟩) ?_ ?_;rotate_left;refine e_step2 rfl rfl (o_ld_locV rfl th25 rfl hbB_56 rfl ⟨rfl,rfl,rfl⟩) ?_ ?_;rotate_left;refine e_step rfl (o_moveV (v:=.loc _ _) rfl ⟨rfl,rfl,rfl⟩) ?_;refine e_step rfl (o_move rfl ⟨rfl,rfl,rfl⟩) ?_;refine e_step rfl (o_bin_int rfl rfl (by decide) (show intBin .sub .i64 ((d+1:Nat):Int) 1=some (.int .i64 (d:Int)) from congrArg (fun z=>some (D.int .i64 z)) hde) ⟨rfl,rfl,rfl⟩) ?_;refine e_w rfl rfl (w_mcall (ih _ (by have:=txt_le s1 32;omega)) hbM_56 rfl ⟨rfl,rfl,rfl⟩) ?_
              first | refine e_step rfl (o_bs rfl th25 rfl th27 rfl rfl (by decide) rfl (by decide) (by decide) ⟨rfl,rfl,rfl⟩) ?_ | refine e_step rfl (o_bs1 rfl (by simp only [encV_width]) th25 rfl th27 rfl rfl (by decide) (by decide) ⟨rfl,rfl,rfl⟩) ?_
              refine e_w rfl rfl (w_apD rfl th25 rfl th27 rfl rfl (by decide) rfl (dst_keep hdC_56 fun t e=>(by have:=hq t e;exact upd_ne _ _ (by omega))) (by simp only [encVs_length,List.length_cons,List.length_nil];omega) (by simp only [encVs_length,List.length_cons,List.length_nil];omega) ⟨rfl,rfl,rfl⟩) ?_;refine e_step rfl (o_fa_loc rfl th27 rfl rfl th25 (by decide) (((upd_ne _ _ (by omega)).trans (killo_ne (fun e=>by have:=hq _ e;omega))).trans ((upd_ne _ _ (by omega)).trans hbB_56)) ⟨rfl,rfl,rfl⟩) ?_;refine e_w0 rfl rfl (w_stV rfl rfl (upd_same _ _ _) th25 rfl (((upd_ne _ _ (by omega)).trans (killo_ne (fun e=>by have:=hq _ e;omega))).trans ((upd_ne _ _ (by omega)).trans hbB_56)) (by simp) ⟨rfl,rfl,rfl⟩) ?_;refine e_nil rfl fun o60 ho60=>?_;have hbZ_60:=(ho60 _).trans ((upd_ne _ _ (by omega)).trans (((upd_ne _ _ (by omega)).trans (killo_ne (fun e=>by have:=hq _ e;omega))).trans ((upd_ne _ _ (by omega)).trans hbZ_56)));have hbr54_60:=(ho60 _).trans ((upd_ne _ _ (by omega)).trans (((upd_ne _ _ (by omega)).trans (killo_ne (fun e=>by have:=hq _ e;omega))).trans ((upd_ne _ _ (by omega)).trans hbr54_56)));have hbM_60:=(ho60 _).trans ((upd_ne _ _ (by omega)).trans (((upd_ne _ _ (by omega)).trans (killo_ne (fun e=>by have:=hq _ e;omega))).trans (upd_same _ _ _)));have hbr58_60:=(ho60 _).trans ((upd_ne _ _ (by omega)).trans (upd_same _ _ _));have hbB_60:=(ho60 _).trans (upd_same _ _ _);have hk60:∀ t,t < nk∧t≠k→o60 t=o56 t:=fun t ht=>(ho60 t).trans ((upd_ne _ _ (by omega)).trans (((upd_ne _ _ (by omega)).trans (killo_ne (fun e=>by have:=hq _ e;omega))).trans (upd_ne _ _ (by omega))))
              ·
               refine hK49 _ ?_;refine WP.reg tabOk rfl ?_;refine um ?_;refine ub ?_;refine ua ?_;refine u_nil ?_;refine ⟨⟨i+1,(rdR d (txtS s1 32).2).2,xs++[(rdR d (txtS s1 32).2).1],ns++[(txtS s1 32).1],.row _,some _,.row _,some _,_,_,o60,((nk2+1)+1)⟩,⟨by omega,by omega,by have:=rdR_le d (txtS s1 32).2;have:=txt_le s1 32;omega,by simp;omega,by simp;omega,?_,hbM_60,hbB_60,hbZ_60,(encVs_app xs _).symm ▸ dst_row hbr58_60,fun t e=>by injection e with e;exact ⟨by omega,by omega,e.symm⟩,(List.map_append (f:=D.str) (l₁:=ns) (l₂:=[(txtS s1 32).1])).symm ▸ dst_row hbr54_60,fun t e=>by injection e with e;exact ⟨by omega,by omega,e.symm⟩,by omega,by omega,by omega,(fun t ht=>(hk60 t (by omega)).trans ((hk56 t (by omega)).trans ((hfr t (by omega)))))⟩,by simp only;omega,Le.al ?_⟩
               ·rw [← heq,show (cntS (rdByte s).2 4096).1.toNat - i=((cntS (rdByte s).2 4096).1.toNat - (i+1))+1 by omega];exact (rdIs_doc h7 hbad).symm
               ·simp only [List.forall_mem_cons];exact ⟨rfl,rfl,rfl,rfl,rfl,cnt (by omega),by simp⟩
              exact o_fa_loc rfl th27 rfl rfl th25 (by decide) ((upd_ne _ _ (by omega)).trans hbB_56) ⟨rfl,rfl,rfl⟩;exact o_ld_locV rfl th25 rfl ((upd_ne _ _ (by omega)).trans hbB_56) rfl ⟨rfl,rfl,rfl⟩
             exact o_fa_loc rfl th27 rfl rfl th22 (by decide) ((upd_ne _ _ (by omega)).trans hob) ⟨rfl,rfl,rfl⟩;exact o_ld_locV rfl th22 rfl ((upd_ne _ _ (by omega)).trans hob) rfl ⟨rfl,rfl,rfl⟩
            ·
             have h7:¬ decide ((rdByte s).1=7)=true:=by simpa using hc52
             refine WP.skip ?_;refine hK50 _ ?_;refine WP.dr3 [.q 0 1,.q 0 1,.q 0 0,.q 0 0,.q 0 0,.w 0,.q 1 1,.w 1,.q 2 2,.w 2] [5,7,9] nk2 (nk2+1) (nk2+1) tabOk (by kernel_rfl) rfl (by kernel_rfl) (by kernel_rfl) ?_;apply Exists.intro;apply Exists.intro;apply Exists.intro;refine e_step2 rfl rfl (o_fa_loc rfl th27 rfl rfl th25 (by decide) hob ⟨rfl,rfl,rfl⟩) ?_ ?_;rotate_left;refine e_step2 rfl rfl (o_ld_locV rfl th25 rfl hob rfl ⟨rfl,rfl,rfl⟩) ?_ ?_;rotate_left;refine e_step rfl (o_moveV (v:=.loc _ _) rfl ⟨rfl,rfl,rfl⟩) ?_;refine e_step rfl (o_move rfl ⟨rfl,rfl,rfl⟩) ?_;refine e_step rfl (o_bin_int rfl rfl (by decide) (show intBin .sub .i64 ((d+1:Nat):Int) 1=some (.int .i64 (d:Int)) from congrArg (fun z=>some (D.int .i64 z)) hde) ⟨rfl,rfl,rfl⟩) ?_;refine e_w rfl rfl (w_mcall (ih _ (by have:=txt_le s1 32;omega)) hsk rfl ⟨rfl,rfl,rfl⟩) ?_
             first | refine e_step rfl (o_bs rfl th25 rfl th27 rfl rfl (by decide) rfl (by decide) (by decide) ⟨rfl,rfl,rfl⟩) ?_ | refine e_step rfl (o_bs1 rfl (by simp only [encV_width]) th25 rfl th27 rfl rfl (by decide) (by decide) ⟨rfl,rfl,rfl⟩) ?_
             refine e_w rfl rfl (w_apD rfl th25 rfl th27 rfl rfl (by decide) rfl (dst_keep hd fun t e=>(by have:=hq t e;exact upd_ne _ _ (by omega))) (by simp only [encVs_length,List.length_cons,List.length_nil];omega) (by simp only [encVs_length,List.length_cons,List.length_nil];omega) ⟨rfl,rfl,rfl⟩) ?_;refine e_step rfl (o_fa_loc rfl th27 rfl rfl th25 (by decide) (((upd_ne _ _ (by omega)).trans (killo_ne (fun e=>by have:=hq _ e;omega))).trans ((upd_ne _ _ (by omega)).trans hob)) ⟨rfl,rfl,rfl⟩) ?_;refine e_w0 rfl rfl (w_stV rfl rfl (upd_same _ _ _) th25 rfl (((upd_ne _ _ (by omega)).trans (killo_ne (fun e=>by have:=hq _ e;omega))).trans ((upd_ne _ _ (by omega)).trans hob)) (by simp) ⟨rfl,rfl,rfl⟩) ?_;refine e_nil rfl fun o64 ho64=>?_;have hbZ_64:=(ho64 _).trans ((upd_ne _ _ (by omega)).trans (((upd_ne _ _ (by omega)).trans (killo_ne (fun e=>by have:=hq _ e;omega))).trans ((upd_ne _ _ (by omega)).trans hzb)));have hdE_64:=dst_keep (o':=o64) hd2 fun t e=>(by have:=hq2 t e;exact (ho64 t).trans ((upd_ne _ _ (by omega)).trans (((upd_ne _ _ (by omega)).trans (killo_ne (fun e=>by have:=hq _ e;omega))).trans (upd_ne _ _ (by omega)))));have hbM_64:=(ho64 _).trans ((upd_ne _ _ (by omega)).trans (((upd_ne _ _ (by omega)).trans (killo_ne (fun e=>by have:=hq _ e;omega))).trans (upd_same _ _ _)));have hbr62_64:=(ho64 _).trans ((upd_ne _ _ (by omega)).trans (upd_same _ _ _));have hbB_64:=(ho64 _).trans (upd_same _ _ _);have hk64:∀ t,t < nk∧t≠k→o64 t=o2 t:=fun t ht=>(ho64 t).trans ((upd_ne _ _ (by omega)).trans (((upd_ne _ _ (by omega)).trans (killo_ne (fun e=>by have:=hq _ e;omega))).trans (upd_ne _ _ (by omega))))
             ·
              refine hK49 _ ?_;refine WP.reg tabOk rfl ?_;refine um ?_;refine ub ?_;refine ua ?_;refine u_nil ?_;refine ⟨⟨i+1,(rdR d s1).2,xs++[(rdR d s1).1],ns,.row _,some _,c2,q2,_,b,o64,(nk2+1)⟩,⟨by omega,by omega,by have:=rdR_le d s1;omega,by simp;omega,by omega,?_,hbM_64,hbB_64,hbZ_64,(encVs_app xs _).symm ▸ dst_row hbr62_64,fun t e=>by injection e with e;exact ⟨by omega,by omega,e.symm⟩,hdE_64,fun t e=>by have:=hq2 t e;omega,by omega,by omega,by omega,(fun t ht=>(hk64 t (by omega)).trans ((hfr t (by omega))))⟩,by simp only;omega,Le.al ?_⟩
              ·rw [← heq,show (cntS (rdByte s).2 4096).1.toNat - i=((cntS (rdByte s).2 4096).1.toNat - (i+1))+1 by omega];exact (rdIs_arr h7 hbad).symm
              ·simp only [List.forall_mem_cons];exact ⟨rfl,rfl,rfl,rfl,rfl,cnt (by omega),by simp⟩
             exact o_fa_loc rfl th27 rfl rfl th25 (by decide) ((upd_ne _ _ (by omega)).trans hob) ⟨rfl,rfl,rfl⟩;exact o_ld_locV rfl th25 rfl ((upd_ne _ _ (by omega)).trans hob) rfl ⟨rfl,rfl,rfl⟩
           ·
            have hfin:rdIs (rdR d) (decide ((rdByte s).1=7)) (cntS (rdByte s).2 4096).1.toNat (cntS (rdByte s).2 4096).2 [] []=(xs,ns,s1):=by
             rw [← heq];by_cases hz:s1.2=true
             ·exact rdIs_bad hz
             ·have hge:(cntS (rdByte s).2 4096).1.toNat - i=0:=by (have hq:=hc48;simp [hz] at hq;omega)
              rw [hge];rfl
            rw [hfin] at hr;refine WP.exit ?_;refine hK15 _ ?_;refine WP.frzC2 (pre:=[.d (.int .i64 (rdByte s).1),.d (.int .i64 0),.d (.str [])]) (post:=[]) [(4,.loc nk 0),(5,.loc (nk+1) 0)] nk hob hd hd2 (fun t h1 h2=>by have:=hq t h1;have:=hq2 t h2;omega) (by omega) (fun t d=>⟨rfl,rfl⟩) (fun t d=>by simp only [List.forall_mem_cons];exact ⟨⟨rfl,rfl⟩,⟨rfl,rfl⟩,by simp⟩) (by simp only [List.forall_mem_cons];exact ⟨rfl,rfl,by simp⟩) (by simp only [List.forall_mem_cons];exact ⟨rfl,rfl,by simp⟩) fun o9 hB9 hk9 hm9=>?_;have hZ9:=hm9 _ _ (by omega) hzb fun t d=>rfl;have hF9:∀ t,t < nk→o9 t=o2 t:=fun t ht=>hk9 t ht (fun h=>by have:=hq t h;omega) (fun h=>by have:=hq2 t h;omega);have hM9:=(hF9 _ hkn).trans hsk;refine wr ?_;refine ug th27 hB9 ?_;refine u_step0 (g_sta rfl rfl th27 rfl hZ9 (by first | (simp;done) | (simp [D.leaves,D.width,valCells];done) | decide) fun o66 hb66 hk66=>?_);have hM9_66:=(hk66 _ (by omega)).trans hM9;have hB9_66:=(hk66 _ (by omega)).trans hB9;refine u_nil ?_;refine WP.ret ?_;refine retCM_ok (resis_agg rfl th27 rfl hb66 rfl rfl rfl) ?_ (by omega) (by rw [hr];exact hM9_66) (fun t ht=>(hk66 t (by omega)).trans ((hF9 t (by omega)).trans ((hfr t (by omega)))));rw [hr];exact D.le_refl _
          ·
           refine ⟨by omega,by omega,by omega,by simp,by simp,rfl,hb44,hb6_44,hb2_44,rfl,by simp,rfl,by simp,by omega,by omega,by decide,(fun t ht=>(hk44 t (by omega)).trans ((hk6 t (by omega)).trans ((hk5 t (by omega)).trans ((hk4 t (by omega)).trans ((hk2 t (by omega)))))))⟩
          ·
           refine Le.al ?_;simp only [List.forall_mem_cons];exact ⟨rfl,rfl,rfl,rfl,rfl,rfl,by simp⟩
         ·
          try (have g6:¬ ((rdByte s).1=6∨(rdByte s).1=7):=hc42)
          try (have hr:rdR (d+1) s=(.mk (rdByte s).1 0 [] [] [],((rdByte s).2.1,true)):=by simp only [rdR];rw [if_neg g0,if_neg g1,if_neg g2,if_neg g3,if_neg g4,if_neg g6])
          refine WP.reg tabOk rfl ?_;refine u_step (o_moveV (v:=.loc _ _) rfl ?_);refine u_step (o_nc rfl hb4_6 ?_);refine uf th63 th4 hb4_6 ?_;refine u_step0 (g_st rfl rfl rfl th4 rfl hb4_6 (by first | (simp;done) | (simp [D.leaves,D.width];done) | decide) fun o67 hb67 hk67=>?_);have hb2_67:=(hk67 _ (by omega)).trans hb2_6;have hb6_67:=(hk67 _ (by omega)).trans hb6;refine u_nil ?_;refine hK15 _ ?_;refine wr ?_;refine ug th27 hb6_67 ?_;refine u_step0 (g_sta rfl rfl th27 rfl hb2_67 (by first | (simp;done) | (simp [D.leaves,D.width,valCells];done) | decide) fun o69 hb69 hk69=>?_);have hb6_69:=(hk69 _ (by omega)).trans hb6_67;have hb67_69:=(hk69 _ (by omega)).trans hb67;refine u_nil ?_;refine WP.ret ?_;refine retCM_ok (resis_agg rfl th27 rfl hb69 rfl rfl rfl) ?_ (by omega) (by rw [hr];exact hb67_69) (fun t ht=>(hk69 t (by omega)).trans ((hk67 t (by omega)).trans ((hk6 t (by omega)).trans ((hk5 t (by omega)).trans ((hk4 t (by omega)).trans ((hk2 t (by omega))))))));rw [hr];exact leV0 _ _ _
theorem rd145:∀ (d:Nat),d≤8→∀ s:SB,s.1.length≤4611686018427387904→MSpec Tryz.prog 145 (fun k=>[.loc k 0,.d (.int .i64 d)]) (srcS s) (srcS (rdR d s).2) (.d (encV (rdR d s).1))
 | 0,hd,s,hx=>s145z s
 | d+1,hd,s,hx=>s145 d (by omega) (rd145 d (by omega)) s hx
theorem fn97:FnOkC Tryz.prog 97 25 [.cell 2 27] (bodyOf Tryz.f97):=⟨Tryz.f97,Tryz.func97,by kernel_rfl,by decide,by kernel_rfl,by kernel_rfl⟩
theorem s97 (s:SB) (hx:s.1.length≤1048576):MSpec Tryz.prog 97 (fun k=>[.loc k 0]) (srcS s) (srcS (rdAllR s).2) (.d (encV (rdAllR s).1)):=by
 have hsz:szV (rdR 8 s).1≤1099511627776:=by
  have h1:=rdR_sz 8 s (by omega);have h2:pot s≤s.1.length+2:=by (unfold pot;split <;> omega)
  split at h1 <;> omega
 refine MSpec.ofC tabOk fn97 (fun _=>by simp) (fun _=>by first | exact srcS_lts _ _ | simp [SV.lts,SV.lt]) fun o nk k hkn hM=>?_;refine wr ?_;refine u_step (g_alloc th27 rfl fun o2 hb2 hk2=>?_);have hM_2:=(hk2 _ (by omega)).trans hM;refine u_nil ?_;refine WP.seq fun K3 hK3=>?_;refine wr ?_;refine u_step (o_moveV (v:=.loc _ _) rfl ?_);refine u_step (o_nc rfl hM_2 ?_);refine uf th63 th4 hM_2 ?_;refine ul th4 hM_2 ?_;refine u_nil ?_;refine wc (fun hc5=>?_) (fun hc5=>?_) <;> try simp only [Q0,Q1,Q2,Q3,Q4,Q5,Q6,Q7,Q8,ge_iff_le,gt_iff_lt] at hc5
 ·
  have h0:s.2=true:=by simpa using hc5
  refine wr ?_;refine u_step (o_bu rfl th27 rfl rfl ?_);refine u_step0 (g_sta rfl rfl th27 rfl hb2 (by first | (simp;done) | (simp [D.leaves,D.width,valCells];done) | decide) fun o7 hb7 hk7=>?_);have hM_7:=(hk7 _ (by omega)).trans hM_2;refine u_nil ?_;refine WP.ret ?_;refine retCM_ok (resis_agg rfl th27 rfl hb7 rfl rfl rfl) ?_ (by omega) (by rw [rdAllR_bad h0];exact hM_7) (fun t ht=>(hk7 t (by omega)).trans ((hk2 t (by omega))));rw [rdAllR_bad h0];exact leV0 _ _ _
 ·
  have h0:¬ s.2=true:=by simpa using hc5
  refine WP.skip ?_;refine hK3 _ ?_;refine wr ?_;refine u_step (o_moveV (v:=.loc _ _) rfl ?_);refine u_step (g_mcall (rd145 8 (by decide) s (by omega)) hM_2 rfl fun o9 hb9 hk9=>?_);have hb2_9:=(hk9 _ (by omega)).trans hb2;refine u_step (g_alloc th27 rfl fun o10 hb10 hk10=>?_);have hb2_10:=(hk10 _ (by omega)).trans hb2_9;have hb9_10:=(hk10 _ (by omega)).trans hb9;refine u_step0 (g_sta rfl (congrArg SV.d (encV_eq _)) th27 rfl hb10 (by simp [valCells]) fun o11 hb11 hk11=>?_);have hb2_11:=(hk11 _ (by omega)).trans hb2_10;have hb9_11:=(hk11 _ (by omega)).trans hb9_10;refine u_nil ?_;refine WP.seq fun K12 hK12=>?_;refine wr ?_;refine u_step (o_moveV (v:=.loc _ _) rfl ?_);refine u_step (o_nc rfl hb9_11 ?_);refine uf th63 th4 hb9_11 ?_;refine ul th4 hb9_11 ?_;refine um ?_;apply gF
  ·rfl
  ·intro hg;exact pg th27 hb11
  apply gF
  ·rfl
  ·intro hg;try simp only [hg,ct];try simp only [hg,ct,Bt]
   refine o_pcall (pv (s66 (rdR 8 s).1 (rdR_rng 8 s) hsz)) rfl ⟨rfl,rfl,rfl⟩
  apply gF
  ·rfl
  ·intro hg;try simp only [hg,ct];try simp only [hg,ct,Bt]
   exact pb
  refine uO ?_;refine u_nil ?_;refine wc (fun hc14=>?_) (fun hc14=>?_) <;> try simp only [Q0,Q1,Q2,Q3,Q4,Q5,Q6,Q7,Q8,ge_iff_le,gt_iff_lt] at hc14
  ·
   have hz:(rdR 8 s).2.2=true∨¬ checkV (rdR 8 s).1=0:=by have hq:=hc14;simpa using hq
   refine wr ?_;refine u_step (o_moveV (v:=.loc _ _) rfl ?_);refine u_step (o_nc rfl hb9_11 ?_);refine uf th63 th4 hb9_11 ?_;refine u_step0 (g_st rfl rfl rfl th4 rfl hb9_11 (by simp) fun o16 hb16 hk16=>?_);have hb2_16:=(hk16 _ (by omega)).trans hb2_11;have hb11_16:=(hk16 _ (by omega)).trans hb11;refine u_nil ?_;refine wr ?_;refine u_step (o_bu rfl th27 rfl rfl ?_);refine u_step0 (g_sta rfl rfl th27 rfl hb2_16 (by first | (simp;done) | (simp [D.leaves,D.width,valCells];done) | decide) fun o18 hb18 hk18=>?_);have hb11_18:=(hk18 _ (by omega)).trans hb11_16;have hb16_18:=(hk18 _ (by omega)).trans hb16;refine u_nil ?_;refine WP.ret ?_;refine retCM_ok (resis_agg rfl th27 rfl hb18 rfl rfl rfl) ?_ (by omega) (by rw [rdAllR_no h0 hz];exact hb16_18) (fun t ht=>(hk18 t (by omega)).trans ((hk16 t (by omega)).trans ((hk11 t (by omega)).trans ((hk10 t (by omega)).trans ((hk9 t (by omega)).trans ((hk2 t (by omega))))))));rw [rdAllR_no h0 hz];exact leV0 _ _ _
  ·
   have hz:¬ ((rdR 8 s).2.2=true∨¬ checkV (rdR 8 s).1=0):=by have hq:=hc14;simpa using hq
   refine WP.skip ?_;refine hK12 _ ?_;refine wr ?_;refine ug th27 hb11 ?_;refine u_step0 (g_sta rfl rfl th27 rfl hb2_11 (by first | (simp;done) | (simp [D.leaves,D.width,valCells];done) | decide) fun o20 hb20 hk20=>?_);have hb9_20:=(hk20 _ (by omega)).trans hb9_11;have hb11_20:=(hk20 _ (by omega)).trans hb11;refine u_nil ?_;refine WP.ret ?_;refine retCM_ok (resis_agg rfl th27 rfl hb20 rfl rfl rfl) ?_ (by omega) (by rw [rdAllR_ok h0 hz];exact hb9_20) (fun t ht=>(hk20 t (by omega)).trans ((hk11 t (by omega)).trans ((hk10 t (by omega)).trans ((hk9 t (by omega)).trans ((hk2 t (by omega)))))));rw [rdAllR_ok h0 hz];rw [encV_eq];exact D.le_refl _
end Go.Proofs.YtpkcbdhjnnnkbaaGreat.Abs

set_option linter.unusedVariables false
set_option linter.unusedSimpArgs false
set_option maxRecDepth 10000
set_option maxHeartbeats 1000000
namespace Go.Proofs.YtpkcbdhjnnnkbaaGreat.Abs
open Go
def SBq (a b:SB):Prop:=a.2=b.2∧(a.2=false→a=b)
theorem SBq.refl (a:SB):SBq a a:=⟨rfl,fun _=>rfl⟩
theorem SBq.bad {a b:SB} (ha:a.2=true) (hb:b.2=true):SBq a b:=⟨ha.trans hb.symm,fun h=>by rw [ha] at h;cases h⟩
theorem SBq.cases {a b:SB} (h:SBq a b):a=b∨(a.2=true∧b.2=true):=by
 cases ha:a.2 with
 | false=>exact .inl (h.2 ha)
 | true=>exact .inr ⟨rfl,by rw [← h.1];exact ha⟩
def RdQ (rd rd':SB→Val×SB):Prop:=∀ s,(rd s).2.2=(rd' s).2.2∧((rd s).2.2=false→rd s=rd' s)
theorem rdIs_q {rd rd':SB→Val×SB} (h:RdQ rd rd') (doc:Bool):∀ (n:Nat) (s:SB) (xs:List Val) (ns:List Str),
    (rdIs rd doc n s xs ns).2.2.2=(rdIs rd' doc n s xs ns).2.2.2∧((rdIs rd doc n s xs ns).2.2.2=false→rdIs rd doc n s xs ns=rdIs rd' doc n s xs ns)
  | 0,s,xs,ns=>⟨rfl,fun _=>rfl⟩
  | n+1,s,xs,ns=>by
    by_cases hb:s.2=true
    · rw [rdIs_bad hb,rdIs_bad hb];exact ⟨rfl,fun _=>rfl⟩
    · cases doc with
      | true=>
        rw [rdIs_doc rfl hb,rdIs_doc rfl hb];have hq:=h (txtS s 32).2;cases hz:(rd (txtS s 32).2).2.2 with
        | true=>rw [rdIs_bad hz,rdIs_bad (hq.1 ▸ hz)];exact ⟨hq.1,fun e=>by simp only at e;rw [hz] at e;cases e⟩
        | false=>rw [hq.2 hz];exact rdIs_q h true n _ _ _
      | false=>
        rw [rdIs_arr (by decide) hb,rdIs_arr (by decide) hb];have hq:=h s;cases hz:(rd s).2.2 with
        | true=>rw [rdIs_bad hz,rdIs_bad (hq.1 ▸ hz)];exact ⟨hq.1,fun e=>by simp only at e;rw [hz] at e;cases e⟩
        | false=>rw [hq.2 hz];exact rdIs_q h false n _ _ _
theorem byte_bad {s:SB} (h:s.2=true):(rdByte s).2.2=true:=by rw [rdByte_no (.inl h)]
theorem take_bad {s:SB} {n:Nat} {r:Bool} (h:s.2=true):takeS s n r=(false,(s.1,true)):=takeS_no (.inl h)
theorem cnt_bad2 {s:SB} {m:Int} (h:s.2=true):cntS s m=(0,(s.1,true)):=by unfold cntS;rw [take_bad h];rfl
theorem int_bad2 {s:SB} (h:s.2=true):intS s=(0,(s.1,true)):=by unfold intS;rw [take_bad h];rfl
theorem txt_bad2 {s:SB} {m:Int} (h:s.2=true):txtS s m=([],(s.1,true)):=by
 refine txtS_no ?_;unfold txtBad;rw [gP_bad h];simp
theorem rdV_bad (d:Nat) {s:SB} (h:s.2=true):(rdV d s).2.2=true:=by
 cases d with
 | zero=>rfl
 | succ d=>
  have hr:=rdByte_no (.inl h);simp only [rdV,hr];rfl
theorem rdV_q:∀ d:Nat,RdQ (rdV d) (rdR d)
 | 0,s=>⟨rfl,fun h=>by cases h⟩
 | d+1,s=>by
  by_cases g0:(rdByte s).2.2=true
  ·have h1:(rdV (d+1) s).2.2=true:=by
    simp only [rdV]
    repeat' split
    ·exact g0
    ·exact byte_bad g0
    ·rw [int_bad2 g0]
    ·rw [txt_bad2 g0]
    ·rw [rdIs_bad (by rw [cnt_bad2 g0]),cnt_bad2 g0]
    ·rfl
   have h2:(rdR (d+1) s).2.2=true:=by simp only [rdR];rw [if_pos g0];exact g0
   exact ⟨h1.trans h2.symm,fun e=>by rw [h1] at e;cases e⟩
  ·have hq:=rdIs_q (rdV_q d) (decide ((rdByte s).1=7)) (cntS (rdByte s).2 4096).1.toNat (cntS (rdByte s).2 4096).2 [] [];simp only [rdV,rdR];rw [if_neg g0];by_cases g1:(rdByte s).1=1
   ·rw [if_pos g1,if_pos g1];exact ⟨rfl,fun _=>rfl⟩
   rw [if_neg g1,if_neg g1];by_cases g2:(rdByte s).1=2
   ·rw [if_pos g2,if_pos g2];exact ⟨rfl,fun _=>rfl⟩
   rw [if_neg g2,if_neg g2];by_cases g3:(rdByte s).1=3
   ·rw [if_pos g3,if_pos g3];exact ⟨rfl,fun _=>rfl⟩
   rw [if_neg g3,if_neg g3];by_cases g4:(rdByte s).1=4∨(rdByte s).1=5
   ·rw [if_pos g4,if_pos g4];exact ⟨rfl,fun _=>rfl⟩
   rw [if_neg g4,if_neg g4];by_cases g6:(rdByte s).1=6∨(rdByte s).1=7
   ·rw [if_pos g6,if_pos g6];exact ⟨hq.1,fun e=>by rw [hq.2 e]⟩
   rw [if_neg g6,if_neg g6];exact ⟨rfl,fun _=>rfl⟩
theorem rdAll_q (s:SB):(rdAll s).1=(rdAllR s).1∧SBq (rdAll s).2 (rdAllR s).2:=by
 by_cases h0:s.2=true
 ·rw [rdAll_no (.inl (rdV_bad 8 h0)),rdAllR_bad h0];exact ⟨rfl,SBq.bad rfl h0⟩
 ·have hq:=rdV_q 8 s;cases hz:(rdV 8 s).2.2 with
  | true=>
   rw [rdAll_no (.inl hz),rdAllR_no h0 (.inl (hq.1 ▸ hz))];exact ⟨rfl,SBq.bad rfl rfl⟩
  | false=>
   have he:=hq.2 hz;by_cases hc:checkV (rdV 8 s).1=0
   ·have hg:¬ ((rdV 8 s).2.2=true∨¬ checkV (rdV 8 s).1=0):=by
     rintro (e | e)
     ·rw [hz] at e;cases e
     ·exact e hc
    rw [rdAll_ok hg,rdAllR_ok h0 (by rw [← he];exact hg),he];exact ⟨rfl,SBq.refl _⟩
   ·rw [rdAll_no (.inr hc),rdAllR_no h0 (.inr (by rw [← he];exact hc)),he];exact ⟨rfl,SBq.refl _⟩
theorem rdAll_bad {s:SB} (h:s.2=true):rdAll s=(.mk 0 0 [] [] [],((rdV 8 s).2.1,true)):=rdAll_no (.inl (rdV_bad 8 h))
theorem rdAll_le (s:SB):(rdAll s).2.1.length≤s.1.length:=by
 unfold rdAll;split <;> exact rdV_le 8 s
theorem rdAllR_le (s:SB):(rdAllR s).2.1.length≤s.1.length:=by
 unfold rdAllR;split
 ·exact Nat.le_refl _
 ·split <;> exact rdR_le 8 s
end Go.Proofs.YtpkcbdhjnnnkbaaGreat.Abs

set_option linter.unusedVariables false
set_option linter.unusedSimpArgs false
set_option maxRecDepth 10000
set_option maxHeartbeats 1000000
namespace Go.Proofs.YtpkcbdhjnnnkbaaGreat.Abs
open Go
theorem rdAll_rng (s:SB):rngV (rdAll s).1:=by
 unfold rdAll;split
 ·exact ⟨by omega,trivial⟩
 ·exact rdV_rng 8 s
theorem rdAll_sz (s:SB) (hx:s.1.length≤1048576):szV (rdAll s).1≤1099511627776:=by
 have h1:=rdV_sz 8 s (by omega);have h2:pot s≤s.1.length+2:=by (unfold pot;split <;> omega)
 unfold rdAll;split
 ·simp [szV,szVs,szN]
 ·split at h1 <;> omega
def rdTs:Nat→SB→List Str→List Str×SB
 | 0,s,ns=>(ns,s)
 | n+1,s,ns=>rdTs n (txtS s 32).2 (ns++[(txtS s 32).1])
def rdTr:Nat→SB→List Str→List Str×SB
 | 0,s,ns=>(ns,s)
 | n+1,s,ns=>if s.2=true then (ns,s) else rdTr n (txtS s 32).2 (ns++[(txtS s 32).1])
theorem rdTs_le:∀ (n:Nat) (s:SB) (ns:List Str),(rdTs n s ns).2.1.length≤s.1.length
 | 0,s,ns=>Nat.le_refl _
 | n+1,s,ns=>Nat.le_trans (rdTs_le n _ _) (txt_le s 32)
def rdD3 (rv:SB→Val×SB) (k:Int) (ns:List Str) (s:SB):Dlt×SB:=
 if k=1 then (⟨k,ns,(rv s).1,0⟩,(rv s).2) else if k=3 then (⟨k,ns,.mk 0 0 [] [] [],(cntS s 999).1⟩,(cntS s 999).2) else (⟨k,ns,.mk 0 0 [] [] [],0⟩,s)
def spoilD (p:Dlt×SB):Dlt×SB:=(p.1,if mayD p.1=true then p.2 else (p.2.1,true))
def rdDl (s:SB):Dlt×SB:=spoilD (rdD3 rdAll (rdByte s).1 (rdTs (cntS (rdByte s).2 8).1.toNat (cntS (rdByte s).2 8).2 []).1 (rdTs (cntS (rdByte s).2 8).1.toNat (cntS (rdByte s).2 8).2 []).2)
theorem spoil_yes {p:Dlt×SB} (h:mayD p.1=true):spoilD p=p:=by unfold spoilD;rw [if_pos h]
theorem spoil_no {p:Dlt×SB} (h:¬ mayD p.1=true):spoilD p=(p.1,(p.2.1,true)):=by unfold spoilD;rw [if_neg h]
theorem map_snoc (ns:List Str) (t:Str):(ns++[t]).map D.str=ns.map D.str++[D.str t]:=by simp
theorem fn93:FnOkC Tryz.prog 93 37 [.cell 2 83] (bodyOf Tryz.f93):=⟨Tryz.f93,Tryz.func93,by kernel_rfl,by decide,by kernel_rfl,by kernel_rfl⟩
theorem s93 (s:SB) (hx:s.1.length≤1048576):MSpec Tryz.prog 93 (fun k=>[.loc k 0]) (srcS s) (srcS (rdDl s).2) (.d (encD (rdDl s).1)):=by
 have hb1:=byte_le s;have hcr:=cnt_rng (rdByte s).2 8 (by decide);have hcl:=cnt_le (rdByte s).2 8;refine MSpec.ofC tabOk fn93 (fun _=>by simp) (fun _=>by first | exact srcS_lts _ _ | simp [SV.lts,SV.lt]) fun o nk k hkn hM=>?_;refine wr ?_;refine u_step (g_alloc th83 rfl fun o2 hb2 hk2=>?_);have hM_2:=(hk2 _ (by omega)).trans hM;refine u_nil ?_;refine wr ?_;refine u_step (o_moveV (v:=.loc _ _) rfl ?_);refine u_step (g_mcall (s106 s) hM_2 rfl fun o4 hb4 hk4=>?_);have hb2_4:=(hk4 _ (by omega)).trans hb2;refine u_step (o_bu rfl th83 rfl rfl ?_);refine u_step (g_alloc th83 rfl fun o5 hb5 hk5=>?_);have hb2_5:=(hk5 _ (by omega)).trans hb2_4;have hb4_5:=(hk5 _ (by omega)).trans hb4;refine u_step0 (g_sta rfl rfl th83 rfl hb5 (by first | (simp;done) | (simp [D.leaves,D.width,valCells];done) | decide) fun o6 hb6 hk6=>?_);have hb2_6:=(hk6 _ (by omega)).trans hb2_5;have hb4_6:=(hk6 _ (by omega)).trans hb4_5;refine u_nil ?_;refine WP.seq fun K7 hK7=>?_;refine wr ?_;refine u_step (o_moveV (v:=.loc _ _) rfl ?_);refine u_step (g_mcall (s92 _ 8) hb4_6 rfl fun o9 hb9 hk9=>?_);have hb2_9:=(hk9 _ (by omega)).trans hb2_6;have hb6_9:=(hk9 _ (by omega)).trans hb6;refine um ?_;refine u_nil ?_;refine WP.block ?_;refine WP.loopL (ι:=Nat×SB×List Str×SV×Option Nat×(Nat→Option AO)×Nat) (fun ⟨i,s1,ns,c,q,o2,nk2⟩=>⟨al [(0,.loc k 0),(2,.loc nk 0),(3,.loc (nk+1) 0),(8,.d (.int .i64 (cntS (rdByte s).2 8).1)),(9,.d (.int .i64 i))],o2,nk2⟩) (fun ⟨i,s1,ns,c,q,o2,nk2⟩=>i≤(cntS (rdByte s).2 8).1.toNat∧nk+2≤nk2∧s1.1.length≤1048576∧ns.length≤i∧rdTs ((cntS (rdByte s).2 8).1.toNat - i) s1 ns=rdTs (cntS (rdByte s).2 8).1.toNat (cntS (rdByte s).2 8).2 []∧o2 k=some (.box (srcS s1))∧o2 (nk+1)=some (.box [.d (.int .i64 (rdByte s).1),c,.d (.int .i64 0),.d (.int .i64 0),.d (.str []),.d .nil,.d .nil,.d (.int .i64 0)])∧o2 nk=some (.box [.d (.int .i64 0),.d .nil,.d (.int .i64 0),.d (.int .i64 0),.d (.str []),.d .nil,.d .nil,.d (.int .i64 0)])∧dstOf o2 9 1 c=some (q,ns.map .str)∧(∀ t,q=some t→nk+2≤t∧t < nk2)∧∀ t,t < nk∧t≠k→o2 t=o t) (fun ⟨i,s1,ns,c,q,o2,nk2⟩=>(cntS (rdByte s).2 8).1.toNat - i) (fun ⟨i,s1,ns,c,q,o2,nk2⟩ hA=>?_) ⟨0,(cntS (rdByte s).2 8).2,[],.d .nil,none,o9,((nk+1)+1)⟩ ?_ ?_
 ·
  obtain ⟨hle,hnk,hsl,hnl,heq,hsk,hob,hzb,hd,hq,hfr⟩:=hA;refine wr ?_;refine ub ?_;refine u_nil ?_;refine WP.seq fun K11 hK11=>?_;refine wc (fun hc12=>?_) (fun hc12=>?_) <;> try simp only [Q0,Q1,Q2,Q3,Q4,Q5,Q6,Q7,Q8,ge_iff_le,gt_iff_lt] at hc12
  ·
   have hlt:i < (cntS (rdByte s).2 8).1.toNat:=by have hgo:=hc12;(try simp at hgo);omega
   refine WP.skip ?_;refine hK11 _ ?_;refine WP.seq fun K13 hK13=>?_;refine WP.block ?_;refine WP.dr3 [.q 0 1,.q 0 1,.q 0 0,.w 0,.q 1 1,.w 1,.q 2 2,.w 2] [3,5,7] nk2 (nk2+1) (nk2+1) tabOk (by kernel_rfl) rfl (by kernel_rfl) (by kernel_rfl) ?_;apply Exists.intro;apply Exists.intro;apply Exists.intro;refine e_step2 rfl rfl (o_fa_loc rfl th83 rfl rfl th22 (by decide) hob ⟨rfl,rfl,rfl⟩) ?_ ?_;rotate_left;refine e_step2 rfl rfl (o_ld_locV rfl th22 rfl hob rfl ⟨rfl,rfl,rfl⟩) ?_ ?_;rotate_left;refine e_step rfl (o_moveV (v:=.loc _ _) rfl ⟨rfl,rfl,rfl⟩) ?_;refine e_w rfl rfl (w_mcall (s107 s1 32 (by omega)) hsk rfl ⟨rfl,rfl,rfl⟩) ?_;refine e_step rfl (o_bs rfl th22 rfl th9 rfl rfl (by decide) rfl (by decide) (by decide) ⟨rfl,rfl,rfl⟩) ?_;refine e_w rfl rfl (w_apD rfl th22 rfl th9 rfl rfl (by decide) rfl (dst_keep hd fun t e=>(by have:=hq t e;exact upd_ne _ _ (by omega))) (by simp only [List.length_map,List.length_cons,List.length_nil];omega) (by simp only [List.length_map,List.length_cons,List.length_nil];omega) ⟨rfl,rfl,rfl⟩) ?_;refine e_step rfl (o_fa_loc rfl th83 rfl rfl th22 (by decide) (((upd_ne _ _ (by omega)).trans (killo_ne (fun e=>by have:=hq _ e;omega))).trans ((upd_ne _ _ (by omega)).trans hob)) ⟨rfl,rfl,rfl⟩) ?_;refine e_w0 rfl rfl (w_stV rfl rfl (upd_same _ _ _) th22 rfl (((upd_ne _ _ (by omega)).trans (killo_ne (fun e=>by have:=hq _ e;omega))).trans ((upd_ne _ _ (by omega)).trans hob)) (by simp) ⟨rfl,rfl,rfl⟩) ?_;refine e_nil rfl fun o17 ho17=>?_;have hbZ_17:=(ho17 _).trans ((upd_ne _ _ (by omega)).trans (((upd_ne _ _ (by omega)).trans (killo_ne (fun e=>by have:=hq _ e;omega))).trans ((upd_ne _ _ (by omega)).trans hzb)));have hbM_17:=(ho17 _).trans ((upd_ne _ _ (by omega)).trans (((upd_ne _ _ (by omega)).trans (killo_ne (fun e=>by have:=hq _ e;omega))).trans (upd_same _ _ _)));have hbr15_17:=(ho17 _).trans ((upd_ne _ _ (by omega)).trans (upd_same _ _ _));have hbB_17:=(ho17 _).trans (upd_same _ _ _);have hk17:∀ t,t < nk∧t≠k→o17 t=o2 t:=fun t ht=>(ho17 t).trans ((upd_ne _ _ (by omega)).trans (((upd_ne _ _ (by omega)).trans (killo_ne (fun e=>by have:=hq _ e;omega))).trans (upd_ne _ _ (by omega))))
   ·
    refine hK13 _ ?_;refine WP.reg tabOk rfl ?_;refine ub ?_;refine um ?_;refine u_nil ?_;refine ⟨⟨i+1,(txtS s1 32).2,ns++[(txtS s1 32).1],.row _,some _,o17,(nk2+1)⟩,⟨by omega,by omega,by have:=txt_le s1 32;omega,by simp;omega,?_,hbM_17,hbB_17,hbZ_17,(map_snoc ns _).symm ▸ dst_row hbr15_17,fun t e=>by injection e with e;omega,(fun t ht=>(hk17 t (by omega)).trans ((hfr t (by omega))))⟩,by simp only;omega,Le.al ?_⟩
    ·rw [← heq,show (cntS (rdByte s).2 8).1.toNat - i=((cntS (rdByte s).2 8).1.toNat - (i+1))+1 by omega];rfl
    ·simp only [List.forall_mem_cons];exact ⟨rfl,rfl,rfl,rfl,cnt (by omega),by simp⟩
   exact o_fa_loc rfl th83 rfl rfl th22 (by decide) ((upd_ne _ _ (by omega)).trans hob) ⟨rfl,rfl,rfl⟩;exact o_ld_locV rfl th22 rfl ((upd_ne _ _ (by omega)).trans hob) rfl ⟨rfl,rfl,rfl⟩
  ·
   have hge:(cntS (rdByte s).2 8).1.toNat - i=0:=by have hgo:=hc12;(try simp at hgo);omega
   have hfin:rdTs (cntS (rdByte s).2 8).1.toNat (cntS (rdByte s).2 8).2 []=(ns,s1):=by rw [← heq,hge];rfl
   have hrd:rdDl s=spoilD (rdD3 rdAll (rdByte s).1 ns s1):=by unfold rdDl;rw [hfin]
   refine WP.exit ?_;refine hK7 _ ?_;refine WP.seq fun K18 hK18=>?_;refine WP.frzC (pre:=[.d (.int .i64 (rdByte s).1)]) (post:=[.d (.int .i64 0),.d (.int .i64 0),.d (.str []),.d .nil,.d .nil,.d (.int .i64 0)]) [(0,.loc k 0),(2,.loc nk 0),(3,.loc (nk+1) 0)] nk hob hd (by omega) (fun t e=>⟨rfl,rfl⟩) (fun t e=>by simp only [List.forall_mem_cons];exact ⟨rfl,rfl,rfl,by simp⟩) (fun e=>by simp only [List.forall_mem_cons];exact ⟨rfl,rfl,rfl,by simp⟩) fun o9 hB9 hk9 hm9=>?_;have hF9:∀ t,t < nk→o9 t=o2 t:=fun t ht=>hk9 t ht (fun h=>by have:=hq t h;omega);have hM9:=(hF9 _ hkn).trans hsk;have hZ9:=hm9 _ _ (by omega) hzb fun t d=>rfl;refine WP.leB [.d (.int .i64 (rdByte s).1),.d (.sl 1 (ns.map .str)),.d (.int .i64 0),.d (.int .i64 0),.d (.str []),.d (.sl 5 []),.d (.sl 1 []),.d (.int .i64 0)] hB9 ⟨D.le_refl _,D.le_refl _,D.le_refl _,D.le_refl _,D.le_refl _,rfl,rfl,D.le_refl _,trivial⟩ fun o8 hB8 hk8=>?_;have hF8:∀ t,t < nk→o8 t=o9 t:=fun t ht=>hk8 t (by omega);have hM8:=(hF8 _ hkn).trans hM9;have hZ8:=(hk8 _ (by omega)).trans hZ9;refine wr ?_;refine uf th83 th3 hB8 ?_;refine ul th3 hB8 ?_;refine u_nil ?_;refine WP.block ?_;refine wr ?_;refine ub ?_;refine ua ?_;refine u_nil ?_;refine wc (fun hc21=>?_) (fun hc21=>?_) <;> try simp only [Q0,Q1,Q2,Q3,Q4,Q5,Q6,Q7,Q8,ge_iff_le,gt_iff_lt] at hc21
   ·
    have g1:(rdByte s).1=1:=by simpa using hc21
    have hd3:rdD3 rdAll (rdByte s).1 ns s1=((⟨(rdByte s).1,ns,(rdAll s1).1,0⟩:Dlt),(rdAll s1).2):=if_pos g1;have hok:okD (⟨(rdByte s).1,ns,(rdAll s1).1,0⟩:Dlt):=⟨rdAll_rng s1,rdAll_sz s1 (by omega)⟩;refine WP.reg tabOk rfl ?_;refine u_step (o_moveV (v:=.loc _ _) rfl ?_);refine u_step (g_mcall (s108 s1 (by omega)) hM8 rfl fun o22 hb22 hk22=>?_);have hB8_22:=(hk22 _ (by omega)).trans hB8;have hZ8_22:=(hk22 _ (by omega)).trans hZ8;refine uf th83 th27 hB8_22 ?_;refine u_step0 (g_sta rfl (congrArg SV.d (encV_eq _)) th27 rfl hB8_22 (by simp [valCells]) fun o23 hb23 hk23=>?_);have hZ8_23:=(hk23 _ (by omega)).trans hZ8_22;have hb22_23:=(hk23 _ (by omega)).trans hb22;refine u_nil ?_;refine hK18 _ ?_;refine WP.seq fun K24 hK24=>?_;refine wr ?_;refine ug th83 hb23 ?_;refine u_step (o_pcall (s73 _ hok) rfl ?_);refine uN ?_;refine u_nil ?_;refine wc (fun hc26=>?_) (fun hc26=>?_) <;> try simp only [Q0,Q1,Q2,Q3,Q4,Q5,Q6,Q7,Q8,ge_iff_le,gt_iff_lt] at hc26
    ·
     have hm:¬ mayD (rdD3 rdAll (rdByte s).1 ns s1).1=true:=by rw [hd3];simpa using hc26
     have hr:=hrd.trans (spoil_no hm);rw [hd3] at hr;refine WP.reg tabOk rfl ?_;refine u_step (o_moveV (v:=.loc _ _) rfl ?_);refine u_step (g_mcall (s109 _) hb22_23 rfl fun o27 hb27 hk27=>?_);have hZ8_27:=(hk27 _ (by omega)).trans hZ8_23;have hb23_27:=(hk27 _ (by omega)).trans hb23;refine u_nil ?_;refine hK24 _ ?_;refine wr ?_;refine ug th83 hb23_27 ?_;refine u_step0 (g_sta rfl rfl th83 rfl hZ8_27 (by first | (simp;done) | (simp [D.leaves,D.width,valCells];done) | decide) fun o29 hb29 hk29=>?_);have hb23_29:=(hk29 _ (by omega)).trans hb23_27;have hb27_29:=(hk29 _ (by omega)).trans hb27;refine u_nil ?_;refine WP.ret ?_;refine retCM_ok (resis_agg rfl th83 rfl hb29 rfl rfl rfl) ?_ (by omega) (by rw [hr];exact hb27_29) (fun t ht=>(hk29 t (by omega)).trans ((hk27 t (by omega)).trans ((hk23 t (by omega)).trans ((hk22 t (by omega)).trans ((hF8 t (by omega)).trans ((hF9 t (by omega)).trans ((hfr t (by omega)))))))));rw [hr];exact D.le_refl _
    ·
     have hm:mayD (rdD3 rdAll (rdByte s).1 ns s1).1=true:=by rw [hd3];simpa using hc26
     have hr:=hrd.trans (spoil_yes hm);rw [hd3] at hr;refine WP.skip ?_;refine hK24 _ ?_;refine wr ?_;refine ug th83 hb23 ?_;refine u_step0 (g_sta rfl rfl th83 rfl hZ8_23 (by first | (simp;done) | (simp [D.leaves,D.width,valCells];done) | decide) fun o31 hb31 hk31=>?_);have hb22_31:=(hk31 _ (by omega)).trans hb22_23;have hb23_31:=(hk31 _ (by omega)).trans hb23;refine u_nil ?_;refine WP.ret ?_;refine retCM_ok (resis_agg rfl th83 rfl hb31 rfl rfl rfl) ?_ (by omega) (by rw [hr];exact hb22_31) (fun t ht=>(hk31 t (by omega)).trans ((hk23 t (by omega)).trans ((hk22 t (by omega)).trans ((hF8 t (by omega)).trans ((hF9 t (by omega)).trans ((hfr t (by omega))))))));rw [hr];exact D.le_refl _
   ·
    have g1:¬ (rdByte s).1=1:=by simpa using hc21
    refine wr ?_;refine ub ?_;refine ua ?_;refine u_nil ?_;refine wc (fun hc33=>?_) (fun hc33=>?_) <;> try simp only [Q0,Q1,Q2,Q3,Q4,Q5,Q6,Q7,Q8,ge_iff_le,gt_iff_lt] at hc33
    ·
     have g3:(rdByte s).1=3:=by simpa using hc33
     have hd3:rdD3 rdAll (rdByte s).1 ns s1=((⟨(rdByte s).1,ns,.mk 0 0 [] [] [],(cntS s1 999).1⟩:Dlt),(cntS s1 999).2):=(if_neg g1).trans (if_pos g3);have hok:okD (⟨(rdByte s).1,ns,.mk 0 0 [] [] [],(cntS s1 999).1⟩:Dlt):=⟨⟨by decide,trivial⟩,by simp [szV,szVs,szN]⟩;refine WP.reg tabOk rfl ?_;refine u_step (o_moveV (v:=.loc _ _) rfl ?_);refine u_step (g_mcall (s92 _ 999) hM8 rfl fun o34 hb34 hk34=>?_);have hB8_34:=(hk34 _ (by omega)).trans hB8;have hZ8_34:=(hk34 _ (by omega)).trans hZ8;refine uf th83 th3 hB8_34 ?_;refine u_step0 (g_st rfl rfl rfl th3 rfl hB8_34 (by first | (simp;done) | (simp [D.leaves,D.width];done) | decide) fun o35 hb35 hk35=>?_);have hZ8_35:=(hk35 _ (by omega)).trans hZ8_34;have hb34_35:=(hk35 _ (by omega)).trans hb34;refine u_nil ?_;refine hK18 _ ?_;refine WP.seq fun K36 hK36=>?_;refine wr ?_;refine ug th83 hb35 ?_;refine u_step (o_pcall (s73 _ hok) rfl ?_);refine uN ?_;refine u_nil ?_;refine wc (fun hc38=>?_) (fun hc38=>?_) <;> try simp only [Q0,Q1,Q2,Q3,Q4,Q5,Q6,Q7,Q8,ge_iff_le,gt_iff_lt] at hc38
     ·
      have hm:¬ mayD (rdD3 rdAll (rdByte s).1 ns s1).1=true:=by rw [hd3];simpa using hc38
      have hr:=hrd.trans (spoil_no hm);rw [hd3] at hr;refine WP.reg tabOk rfl ?_;refine u_step (o_moveV (v:=.loc _ _) rfl ?_);refine u_step (g_mcall (s109 _) hb34_35 rfl fun o39 hb39 hk39=>?_);have hZ8_39:=(hk39 _ (by omega)).trans hZ8_35;have hb35_39:=(hk39 _ (by omega)).trans hb35;refine u_nil ?_;refine hK36 _ ?_;refine wr ?_;refine ug th83 hb35_39 ?_;refine u_step0 (g_sta rfl rfl th83 rfl hZ8_39 (by first | (simp;done) | (simp [D.leaves,D.width,valCells];done) | decide) fun o41 hb41 hk41=>?_);have hb35_41:=(hk41 _ (by omega)).trans hb35_39;have hb39_41:=(hk41 _ (by omega)).trans hb39;refine u_nil ?_;refine WP.ret ?_;refine retCM_ok (resis_agg rfl th83 rfl hb41 rfl rfl rfl) ?_ (by omega) (by rw [hr];exact hb39_41) (fun t ht=>(hk41 t (by omega)).trans ((hk39 t (by omega)).trans ((hk35 t (by omega)).trans ((hk34 t (by omega)).trans ((hF8 t (by omega)).trans ((hF9 t (by omega)).trans ((hfr t (by omega)))))))));rw [hr];exact D.le_refl _
     ·
      have hm:mayD (rdD3 rdAll (rdByte s).1 ns s1).1=true:=by rw [hd3];simpa using hc38
      have hr:=hrd.trans (spoil_yes hm);rw [hd3] at hr;refine WP.skip ?_;refine hK36 _ ?_;refine wr ?_;refine ug th83 hb35 ?_;refine u_step0 (g_sta rfl rfl th83 rfl hZ8_35 (by first | (simp;done) | (simp [D.leaves,D.width,valCells];done) | decide) fun o43 hb43 hk43=>?_);have hb34_43:=(hk43 _ (by omega)).trans hb34_35;have hb35_43:=(hk43 _ (by omega)).trans hb35;refine u_nil ?_;refine WP.ret ?_;refine retCM_ok (resis_agg rfl th83 rfl hb43 rfl rfl rfl) ?_ (by omega) (by rw [hr];exact hb34_43) (fun t ht=>(hk43 t (by omega)).trans ((hk35 t (by omega)).trans ((hk34 t (by omega)).trans ((hF8 t (by omega)).trans ((hF9 t (by omega)).trans ((hfr t (by omega))))))));rw [hr];exact D.le_refl _
    ·
     have g3:¬ (rdByte s).1=3:=by simpa using hc33
     have hd3:rdD3 rdAll (rdByte s).1 ns s1=((⟨(rdByte s).1,ns,.mk 0 0 [] [] [],0⟩:Dlt),s1):=(if_neg g1).trans (if_neg g3);have hok:okD (⟨(rdByte s).1,ns,.mk 0 0 [] [] [],0⟩:Dlt):=⟨⟨by decide,trivial⟩,by simp [szV,szVs,szN]⟩;refine WP.skip ?_;refine hK18 _ ?_;refine WP.seq fun K44 hK44=>?_;refine wr ?_;refine ug th83 hB8 ?_;refine u_step (o_pcall (s73 _ hok) rfl ?_);refine uN ?_;refine u_nil ?_;refine wc (fun hc46=>?_) (fun hc46=>?_) <;> try simp only [Q0,Q1,Q2,Q3,Q4,Q5,Q6,Q7,Q8,ge_iff_le,gt_iff_lt] at hc46
     ·
      have hm:¬ mayD (rdD3 rdAll (rdByte s).1 ns s1).1=true:=by rw [hd3];simpa using hc46
      have hr:=hrd.trans (spoil_no hm);rw [hd3] at hr;refine WP.reg tabOk rfl ?_;refine u_step (o_moveV (v:=.loc _ _) rfl ?_);refine u_step (g_mcall (s109 _) hM8 rfl fun o47 hb47 hk47=>?_);have hB8_47:=(hk47 _ (by omega)).trans hB8;have hZ8_47:=(hk47 _ (by omega)).trans hZ8;refine u_nil ?_;refine hK44 _ ?_;refine wr ?_;refine ug th83 hB8_47 ?_;refine u_step0 (g_sta rfl rfl th83 rfl hZ8_47 (by first | (simp;done) | (simp [D.leaves,D.width,valCells];done) | decide) fun o49 hb49 hk49=>?_);have hB8_49:=(hk49 _ (by omega)).trans hB8_47;have hb47_49:=(hk49 _ (by omega)).trans hb47;refine u_nil ?_;refine WP.ret ?_;refine retCM_ok (resis_agg rfl th83 rfl hb49 rfl rfl rfl) ?_ (by omega) (by rw [hr];exact hb47_49) (fun t ht=>(hk49 t (by omega)).trans ((hk47 t (by omega)).trans ((hF8 t (by omega)).trans ((hF9 t (by omega)).trans ((hfr t (by omega)))))));rw [hr];exact D.le_refl _
     ·
      have hm:mayD (rdD3 rdAll (rdByte s).1 ns s1).1=true:=by rw [hd3];simpa using hc46
      have hr:=hrd.trans (spoil_yes hm);rw [hd3] at hr;refine WP.skip ?_;refine hK44 _ ?_;refine wr ?_;refine ug th83 hB8 ?_;refine u_step0 (g_sta rfl rfl th83 rfl hZ8 (by first | (simp;done) | (simp [D.leaves,D.width,valCells];done) | decide) fun o51 hb51 hk51=>?_);have hM8_51:=(hk51 _ (by omega)).trans hM8;have hB8_51:=(hk51 _ (by omega)).trans hB8;refine u_nil ?_;refine WP.ret ?_;refine retCM_ok (resis_agg rfl th83 rfl hb51 rfl rfl rfl) ?_ (by omega) (by rw [hr];exact hM8_51) (fun t ht=>(hk51 t (by omega)).trans ((hF8 t (by omega)).trans ((hF9 t (by omega)).trans ((hfr t (by omega))))));rw [hr];exact D.le_refl _
 ·
  refine ⟨by omega,by omega,by omega,by simp,rfl,hb9,hb6_9,hb2_9,rfl,by simp,(fun t ht=>(hk9 t (by omega)).trans ((hk6 t (by omega)).trans ((hk5 t (by omega)).trans ((hk4 t (by omega)).trans ((hk2 t (by omega)))))))⟩
 ·
  refine Le.al ?_;simp only [List.forall_mem_cons];exact ⟨rfl,rfl,rfl,rfl,rfl,by simp⟩
end Go.Proofs.YtpkcbdhjnnnkbaaGreat.Abs

set_option linter.unusedVariables false
set_option linter.unusedSimpArgs false
set_option maxRecDepth 10000
set_option maxHeartbeats 1000000
namespace Go.Proofs.YtpkcbdhjnnnkbaaGreat.Abs
open Go
theorem rdD3_le (k:Int) (ns:List Str) (s:SB):(rdD3 rdAll k ns s).2.1.length≤s.1.length:=by
 unfold rdD3;split
 ·exact rdAll_le s
 ·split
  ·exact cnt_le _ _
  ·exact Nat.le_refl _
theorem spoil_len (p:Dlt×SB):(spoilD p).2.1.length=p.2.1.length:=by unfold spoilD;simp only;split <;> rfl
theorem rdDl_le (s:SB):(rdDl s).2.1.length≤s.1.length:=by
 unfold rdDl;rw [spoil_len];exact Nat.le_trans (rdD3_le _ _ _) (Nat.le_trans (rdTs_le _ _ _) (Nat.le_trans (cnt_le _ _) (byte_le s)))
def rdDls:Nat→SB→List Dlt→List Dlt×SB
 | 0,s,ds=>(ds,s)
 | n+1,s,ds=>rdDls n (rdDl s).2 (if (rdDl s).2.2=true then ds else ds++[(rdDl s).1])
def rdDq (r:List Dlt×SB):List Dlt×SB:=(if r.2.2=true then [] else r.1,r.2)
def rdDsP (s:SB):List Dlt×SB:=rdDq (rdDls (cntS s 64).1.toNat (cntS s 64).2 [])
theorem rdDq_no {r:List Dlt×SB} (h:r.2.2=true):rdDq r=([],r.2):=by unfold rdDq;rw [if_pos h]
theorem rdDq_ok {r:List Dlt×SB} (h:¬ r.2.2=true):rdDq r=r:=by unfold rdDq;rw [if_neg h]
theorem mapD_snoc (ds:List Dlt) (d:Dlt):(ds++[d]).map encD=ds.map encD++[encD d]:=by simp
theorem fn38:FnOk Tryz.prog 38 22 [2] (bodyOf Tryz.f38):=⟨Tryz.f38,Tryz.func38,by kernel_rfl,by decide,by kernel_rfl,by kernel_rfl⟩
theorem s38 (s:SB) (hx:s.1.length≤1048576):MSpec Tryz.prog 38 (fun k=>[.loc k 0]) (srcS s) (srcS (rdDsP s).2) (.d (.sl 8 ((rdDsP s).1.map encD))):=by
 have hcr:=cnt_rng s 64 (by decide);have hcl:=cnt_le s 64;refine MSpec.ofW fn38 (fun _=>by simp) (fun _=>by first | exact srcS_lts _ _ | simp [SV.lts,SV.lt]) fun o nk k hkn hM=>?_;refine wr ?_;refine ua ?_;refine u_nil ?_;refine wr ?_;refine ua ?_;refine u_nil ?_;refine WP.seq fun K3 hK3=>?_;refine wr ?_;refine u_step (o_moveV (v:=.loc _ _) rfl ?_);refine u_step (g_mcall (s92 s 64) hM rfl fun o5 hb5 hk5=>?_);refine um ?_;refine u_nil ?_;refine WP.block ?_;refine WP.loopL (ι:=Nat×SB×List Dlt×SV×Option Nat×(Nat→Option AO)×Nat) (fun ⟨i,s1,ds,c,q,o2,nk2⟩=>⟨al [(0,.loc k 0),(3,c),(6,.d (.int .i64 (cntS s 64).1)),(7,.d (.int .i64 i))],o2,nk2⟩) (fun ⟨i,s1,ds,c,q,o2,nk2⟩=>i≤(cntS s 64).1.toNat∧nk≤nk2∧s1.1.length≤1048576∧ds.length≤i∧rdDls ((cntS s 64).1.toNat - i) s1 ds=rdDls (cntS s 64).1.toNat (cntS s 64).2 []∧o2 k=some (.box (srcS s1))∧dstOf o2 83 8 c=some (q,ds.map encD)∧(∀ t,q=some t→nk≤t∧t < nk2)∧∀ t,t < nk∧t≠k→o2 t=o t) (fun ⟨i,s1,ds,c,q,o2,nk2⟩=>(cntS s 64).1.toNat - i) (fun ⟨i,s1,ds,c,q,o2,nk2⟩ hA=>?_) ⟨0,(cntS s 64).2,[],.d .nil,none,o5,nk⟩ ?_ ?_
 ·
  obtain ⟨hle,hnk,hsl,hnl,heq,hsk,hd,hq,hfr⟩:=hA;refine wr ?_;refine ub ?_;refine u_nil ?_;refine WP.seq fun K7 hK7=>?_;refine wc (fun hc8=>?_) (fun hc8=>?_) <;> try simp only [Q0,Q1,Q2,Q3,Q4,Q5,Q6,Q7,Q8,ge_iff_le,gt_iff_lt] at hc8
  ·
   have hlt:i < (cntS s 64).1.toNat:=by have hgo:=hc8;(try simp at hgo);omega
   refine WP.skip ?_;refine hK7 _ ?_;refine WP.seq fun K9 hK9=>?_;refine WP.block ?_;refine wr ?_;refine u_step (o_moveV (v:=.loc _ _) rfl ?_);refine u_step (g_mcall (s93 s1 (by omega)) hsk rfl fun o11 hb11 hk11=>?_);have hd_11:=dst_keep hd fun t e=>hk11 t (by have:=hq t e;omega);refine u_step (g_alloc th83 rfl fun o12 hb12 hk12=>?_);have hd_12:=dst_keep hd_11 fun t e=>hk12 t (by have:=hq t e;omega);have hb11_12:=(hk12 _ (by omega)).trans hb11;refine u_step0 (g_sta rfl rfl th83 rfl hb12 (by first | (simp;done) | (simp [D.leaves,D.width,valCells];done) | decide) fun o13 hb13 hk13=>?_);have hd_13:=dst_keep hd_12 fun t e=>hk13 t (by have:=hq t e;omega);have hb11_13:=(hk13 _ (by omega)).trans hb11_12;refine u_nil ?_;refine wr ?_;refine u_step (o_moveV (v:=.loc _ _) rfl ?_);refine u_step (o_scall (s41 _ hb11_13) rfl ?_);refine uN ?_;refine u_nil ?_;refine wc (fun hc15=>?_) (fun hc15=>?_) <;> try simp only [Q0,Q1,Q2,Q3,Q4,Q5,Q6,Q7,Q8,ge_iff_le,gt_iff_lt] at hc15
   ·
    have hb0:¬ (rdDl s1).2.2=true:=by have hgo:=hc15;simpa using hgo
    refine WP.reg tabOk rfl ?_;refine u_step (o_moveV (v:=c) rfl ?_);refine ug th83 hb13 ?_
    first | refine u_step (o_bs rfl th28 rfl th83 rfl rfl (by decide) rfl (by decide) (by decide) ?_) | refine u_step (o_bs1 rfl (by simp only [encV_width]) th28 rfl th83 rfl rfl (by decide) (by decide) ?_)
    refine u_step (g_apD2 rfl th28 rfl th83 rfl rfl (by decide) rfl hd_13 (by simp only [List.length_map,List.length_cons,List.length_nil];omega) (by simp only [List.length_map,List.length_cons,List.length_nil];omega) fun o16 hb16 hk16=>?_);have hb11_16:=(hk16 _ (by omega) (fun e=>by have:=hq _ e.symm;omega)).trans hb11_13;have hb13_16:=(hk16 _ (by omega) (fun e=>by have:=hq _ e.symm;omega)).trans hb13;refine u_step (o_assignV (v:=.row _) rfl ?_);refine u_nil ?_;refine hK9 _ ?_;refine WP.reg tabOk rfl ?_;refine ub ?_;refine um ?_;refine u_nil ?_;refine ⟨⟨i+1,(rdDl s1).2,ds++[(rdDl s1).1],.row _,some _,o16,((nk2+1)+1)⟩,⟨by omega,by omega,by have:=rdDl_le s1;omega,by simp;omega,?_,hb11_16,(mapD_snoc ds _).symm ▸ dst_row hb16,fun t e=>by injection e with e;omega,(fun t ht=>(hk16 t (by omega) (fun e=>by have:=hq _ e.symm;omega)).trans ((hk13 t (by omega)).trans ((hk12 t (by omega)).trans ((hk11 t (by omega)).trans ((hfr t (by omega)))))))⟩,by simp only;omega,Le.al ?_⟩
    ·rw [← heq,show (cntS s 64).1.toNat - i=((cntS s 64).1.toNat - (i+1))+1 by omega];simp only [rdDls];rw [if_neg hb0]
    ·simp only [List.forall_mem_cons];exact ⟨rfl,rfl,rfl,cnt (by omega),by simp⟩
   ·
    have hb0:(rdDl s1).2.2=true:=by have hgo:=hc15;simpa using hgo
    refine WP.skip ?_;refine hK9 _ ?_;refine WP.reg tabOk rfl ?_;refine ub ?_;refine um ?_;refine u_nil ?_;refine ⟨⟨i+1,(rdDl s1).2,ds,c,q,o13,(nk2+1)⟩,⟨by omega,by omega,by have:=rdDl_le s1;omega,by omega,?_,hb11_13,hd_13,fun t e=>by have:=hq t e;omega,(fun t ht=>(hk13 t (by omega)).trans ((hk12 t (by omega)).trans ((hk11 t (by omega)).trans ((hfr t (by omega))))))⟩,by simp only;omega,Le.al ?_⟩
    ·rw [← heq,show (cntS s 64).1.toNat - i=((cntS s 64).1.toNat - (i+1))+1 by omega];simp only [rdDls];rw [if_pos hb0]
    ·simp only [List.forall_mem_cons];exact ⟨rfl,rfl,rfl,cnt (by omega),by simp⟩
  ·
   have hge:(cntS s 64).1.toNat - i=0:=by have hgo:=hc8;(try simp at hgo);omega
   have hfin:rdDls (cntS s 64).1.toNat (cntS s 64).2 []=(ds,s1):=by rw [← heq,hge];rfl
   have hrd:rdDsP s=rdDq (ds,s1):=by unfold rdDsP;rw [hfin]
   refine WP.exit ?_;refine hK3 _ ?_;refine WP.seq fun K17 hK17=>?_;refine wr ?_;refine u_step (o_moveV (v:=.loc _ _) rfl ?_);refine u_step (o_scall (s41 s1 hsk) rfl ?_);refine u_nil ?_;refine wc (fun hc19=>?_) (fun hc19=>?_) <;> try simp only [Q0,Q1,Q2,Q3,Q4,Q5,Q6,Q7,Q8,ge_iff_le,gt_iff_lt] at hc19
   ·
    have hr:rdDsP s=([],s1):=hrd.trans (rdDq_no (by simpa using hc19));refine wr ?_;refine ua ?_;refine u_nil ?_;refine WP.ret ?_;refine retMW_ok rfl ?_ (by omega) (by rw [hr];exact hsk) (fun t ht=>(hfr t (by omega)));rw [hr];exact rfl
   ·
    have hr:rdDsP s=(ds,s1):=hrd.trans (rdDq_ok (by simpa using hc19));refine WP.skip ?_;refine hK17 _ ?_;refine WP.frzS (fun y=>[(0,.loc k 0),(3,.d y)]) nk hd (fun t h1 h2=>by subst h2;simp only [List.forall_mem_cons];exact ⟨rfl,(show SV.frz t (.sl 8 (ds.map encD)) (.row t)=_ from if_pos rfl),by simp⟩) (fun h2=>by subst h2;simp only [List.forall_mem_cons];exact ⟨rfl,rfl,by simp⟩) fun y o9 hy hk9=>?_;have hF9:∀ t,t < nk→o9 t=o2 t:=fun t ht=>hk9 t ht (fun h=>by have:=hq t h;omega);have hM9:=(hF9 _ hkn).trans hsk;refine wr ?_;refine um ?_;refine ua ?_;refine u_nil ?_;refine WP.ret ?_;refine retMW_ok rfl ?_ (by omega) (by rw [hr];exact hM9) (fun t ht=>(hF9 t (by omega)).trans ((hfr t (by omega))));rw [hr];exact hy
 ·
  refine ⟨by omega,by omega,by omega,by simp,rfl,hb5,rfl,by simp,(fun t ht=>(hk5 t (by omega)))⟩
 ·
  refine Le.al ?_;simp only [List.forall_mem_cons];exact ⟨rfl,rfl,rfl,rfl,by simp⟩
end Go.Proofs.YtpkcbdhjnnnkbaaGreat.Abs

set_option linter.unusedVariables false
set_option linter.unusedSimpArgs false
set_option maxRecDepth 10000
set_option maxHeartbeats 1000000
namespace Go.Proofs.YtpkcbdhjnnnkbaaGreat.Abs
open Go
theorem rdAllR_rng (s:SB):rngV (rdAllR s).1:=by
 rw [← (rdAll_q s).1];exact rdAll_rng s
theorem rdAllR_sz (s:SB) (hx:s.1.length≤1048576):szV (rdAllR s).1≤1099511627776:=by
 rw [← (rdAll_q s).1];exact rdAll_sz s hx
theorem rdTr_bad {n:Nat} {s:SB} {ns:List Str} (hb:s.2=true):rdTr n s ns=(ns,s):=by
 cases n with
 | zero=>rfl
 | succ n=>simp only [rdTr,if_pos hb]
theorem rdTr_le:∀ (n:Nat) (s:SB) (ns:List Str),(rdTr n s ns).2.1.length≤s.1.length
 | 0,s,ns=>Nat.le_refl _
 | n+1,s,ns=>by
  simp only [rdTr];split
  ·exact Nat.le_refl _
  ·exact Nat.le_trans (rdTr_le n _ _) (txt_le s 32)
def rdDr (s:SB):Dlt×SB:=spoilD (rdD3 rdAllR (rdByte s).1 (rdTr (cntS (rdByte s).2 8).1.toNat (cntS (rdByte s).2 8).2 []).1 (rdTr (cntS (rdByte s).2 8).1.toNat (cntS (rdByte s).2 8).2 []).2)
theorem rdD3r_le (k:Int) (ns:List Str) (s:SB):(rdD3 rdAllR k ns s).2.1.length≤s.1.length:=by
 unfold rdD3;split
 ·exact rdAllR_le s
 ·split
  ·exact cnt_le _ _
  ·exact Nat.le_refl _
theorem rdDr_le (s:SB):(rdDr s).2.1.length≤s.1.length:=by
 unfold rdDr;rw [spoil_len];exact Nat.le_trans (rdD3r_le _ _ _) (Nat.le_trans (rdTr_le _ _ _) (Nat.le_trans (cnt_le _ _) (byte_le s)))
def rdDlr:Nat→SB→List Dlt→List Dlt×SB
 | 0,s,ds=>(ds,s)
 | n+1,s,ds=>if s.2=true then (ds,s) else rdDlr n (rdDr s).2 (ds++[(rdDr s).1])
def rdDsR (s:SB):List Dlt×SB:=rdDq (rdDlr (cntS s 64).1.toNat (cntS s 64).2 [])
theorem rdDlr_bad {n:Nat} {s:SB} {ds:List Dlt} (hb:s.2=true):rdDlr n s ds=(ds,s):=by
 cases n with
 | zero=>rfl
 | succ n=>simp only [rdDlr,if_pos hb]
theorem dst_frz {o:Nat→Option AO} {e z:Nat} {c:SV} {q:Option Nat} {xs:List D} {t:Nat} {d:D} (h:dstOf o e z c=some (q,xs)) (hn:q≠some t):c.frz t d=c:=by
 rcases dst_two h with ⟨rfl,_,_⟩ | ⟨u,rfl,rfl,_⟩
 ·rfl
 ·exact if_neg (fun e=>hn (by rw [e]))
theorem fn40:FnOk Tryz.prog 40 74 [2] (bodyOf Tryz.f40):=⟨Tryz.f40,Tryz.func40,by kernel_rfl,by decide,by kernel_rfl,by kernel_rfl⟩
theorem s40 (s:SB) (hx:s.1.length≤1048576):MSpec Tryz.prog 40 (fun k=>[.loc k 0]) (srcS s) (srcS (rdDsR s).2) (.d (.sl 8 ((rdDsR s).1.map encD))):=by
 have hcr:=cnt_rng s 64 (by decide);have hcl:=cnt_le s 64;refine MSpec.ofW fn40 (fun _=>by simp) (fun _=>by first | exact srcS_lts _ _ | simp [SV.lts,SV.lt]) fun o nk k hkn hM=>?_;refine wr ?_;refine ua ?_;refine u_nil ?_;refine wr ?_;refine u_step (o_moveV (v:=.loc _ _) rfl ?_);refine u_step (g_mcall (s94 s 64) hM rfl fun o3 hb3 hk3=>?_);refine ua ?_;refine u_nil ?_;refine wr ?_;refine ua ?_;refine u_nil ?_;refine WP.seq fun K5 hK5=>?_;refine wr ?_;refine ua ?_;refine u_nil ?_;refine WP.block ?_;refine WP.loopL (ι:=Nat×SB×List Dlt×SV×Option Nat×(Nat→Option AO)×Nat) (fun ⟨i,s1,ds,c,q,o2,nk2⟩=>⟨al [(0,.loc k 0),(3,.d (.int .i64 (cntS s 64).1)),(4,c),(5,.d (.int .i64 i))],o2,nk2⟩) (fun ⟨i,s1,ds,c,q,o2,nk2⟩=>i≤(cntS s 64).1.toNat∧nk≤nk2∧s1.1.length≤1048576∧ds.length≤i∧rdDlr ((cntS s 64).1.toNat - i) s1 ds=rdDlr (cntS s 64).1.toNat (cntS s 64).2 []∧o2 k=some (.box (srcS s1))∧dstOf o2 83 8 c=some (q,ds.map encD)∧(∀ t,q=some t→nk≤t∧t < nk2)∧∀ t,t < nk∧t≠k→o2 t=o t) (fun ⟨i,s1,ds,c,q,o2,nk2⟩=>(cntS s 64).1.toNat - i) (fun ⟨i,s1,ds,c,q,o2,nk2⟩ hA=>?_) ⟨0,(cntS s 64).2,[],.d .nil,none,o3,nk⟩ ?_ ?_
 ·
  obtain ⟨hle,hnk,hsl,hnl,heq,hsk,hd,hq,hfr⟩:=hA;refine WP.seq fun K7 hK7=>?_;refine wr ?_;refine um ?_;refine um ?_;refine ub ?_;refine um ?_;apply gT
  ·rfl
  ·intro hg;refine o_moveV (v:=.loc _ _) rfl ⟨rfl,rfl,rfl⟩
  apply gT
  ·rfl
  ·intro hg;try simp only [hg,ct];try simp only [hg,ct,Bt]
   refine o_nc rfl hsk ⟨rfl,rfl,rfl⟩
  apply gT
  ·rfl
  ·intro hg;try simp only [hg,ct];try simp only [hg,ct,Bt]
   exact pf th63 th4 hsk
  apply gT
  ·rfl
  ·intro hg;try simp only [hg,ct];try simp only [hg,ct,Bt]
   exact pl th4 hsk
  apply gT
  ·rfl
  ·intro hg;try simp only [hg,ct];try simp only [hg,ct,Bt]
   exact pN
  refine uA ?_;refine u_nil ?_;refine wc (fun hc9=>?_) (fun hc9=>?_) <;> try simp only [Q0,Q1,Q2,Q3,Q4,Q5,Q6,Q7,Q8,ge_iff_le,gt_iff_lt] at hc9
  ·
   have hgo:=hc9;simp at hgo;have hlt:i < (cntS s 64).1.toNat:=by omega
   have hbad:¬ s1.2=true:=by rw [hgo.2];decide
   clear hgo;have hcr1:=cnt_rng (rdByte s1).2 8 (by decide);have hcl1:=cnt_le (rdByte s1).2 8;have hbl1:=byte_le s1;refine WP.skip ?_;refine hK7 _ ?_;refine WP.seq fun K10 hK10=>?_;refine WP.block ?_;refine wr ?_;refine u_step (o_moveV (v:=.loc _ _) rfl ?_);refine u_step (g_mcall (s95 s1) hsk rfl fun o12 hb12 hk12=>?_);have hd_12:=dst_keep hd fun t e=>hk12 t (by have:=hq t e;omega);refine u_step (o_bu rfl th83 rfl rfl ?_);refine u_step (g_alloc th83 rfl fun o13 hb13 hk13=>?_);have hd_13:=dst_keep hd_12 fun t e=>hk13 t (by have:=hq t e;omega);have hb12_13:=(hk13 _ (by omega)).trans hb12;refine u_step0 (g_sta rfl rfl th83 rfl hb13 (by first | (simp;done) | (simp [D.leaves,D.width,valCells];done) | decide) fun o14 hb14 hk14=>?_);have hd_14:=dst_keep hd_13 fun t e=>hk14 t (by have:=hq t e;omega);have hb12_14:=(hk14 _ (by omega)).trans hb12_13;refine u_nil ?_;refine wr ?_;refine u_step (o_moveV (v:=.loc _ _) rfl ?_);refine u_step (g_mcall (s94 _ 8) hb12_14 rfl fun o16 hb16 hk16=>?_);have hd_16:=dst_keep hd_14 fun t e=>hk16 t (by have:=hq t e;omega);have hb14_16:=(hk16 _ (by omega)).trans hb14;refine ua ?_;refine u_nil ?_;refine WP.seq fun K17 hK17=>?_;refine wr ?_;refine ua ?_;refine u_nil ?_;refine WP.block ?_;refine WP.loopL (ι:=Nat×SB×List Str×SV×Option Nat×(Nat→Option AO)×Nat) (fun ⟨j,s2,ns,c2,q2,o3,nk3⟩=>⟨al [(0,.loc k 0),(3,.d (.int .i64 (cntS s 64).1)),(4,c),(5,.d (.int .i64 i)),(6,.loc nk2 0),(7,.d (.int .i64 (cntS (rdByte s1).2 8).1)),(8,.d (.int .i64 j))],o3,nk3⟩) (fun ⟨j,s2,ns,c2,q2,o3,nk3⟩=>j≤(cntS (rdByte s1).2 8).1.toNat∧nk2+1≤nk3∧s2.1.length≤1048576∧ns.length≤j∧rdTr ((cntS (rdByte s1).2 8).1.toNat - j) s2 ns=rdTr (cntS (rdByte s1).2 8).1.toNat (cntS (rdByte s1).2 8).2 []∧o3 k=some (.box (srcS s2))∧o3 nk2=some (.box [.d (.int .i64 (rdByte s1).1),c2,.d (.int .i64 0),.d (.int .i64 0),.d (.str []),.d .nil,.d .nil,.d (.int .i64 0)])∧dstOf o3 83 8 c=some (q,ds.map encD)∧dstOf o3 9 1 c2=some (q2,ns.map .str)∧(∀ t,q2=some t→nk2+1≤t∧t < nk3)∧∀ t,t < nk∧t≠k→o3 t=o t) (fun ⟨j,s2,ns,c2,q2,o3,nk3⟩=>(cntS (rdByte s1).2 8).1.toNat - j) (fun ⟨j,s2,ns,c2,q2,o3,nk3⟩ hA=>?_) ⟨0,(cntS (rdByte s1).2 8).2,[],.d .nil,none,o16,(nk2+1)⟩ ?_ ?_
   ·
    obtain ⟨hlej,hnkj,hslj,hnlj,heqj,hskj,hobj,hdj,hd4,hq4,hfrj⟩:=hA;refine WP.seq fun K19 hK19=>?_;refine wr ?_;refine um ?_;refine um ?_;refine ub ?_;refine um ?_;apply gT
    ·rfl
    ·intro hg;refine o_moveV (v:=.loc _ _) rfl ⟨rfl,rfl,rfl⟩
    apply gT
    ·rfl
    ·intro hg;try simp only [hg,ct];try simp only [hg,ct,Bt]
     refine o_nc rfl hskj ⟨rfl,rfl,rfl⟩
    apply gT
    ·rfl
    ·intro hg;try simp only [hg,ct];try simp only [hg,ct,Bt]
     exact pf th63 th4 hskj
    apply gT
    ·rfl
    ·intro hg;try simp only [hg,ct];try simp only [hg,ct,Bt]
     exact pl th4 hskj
    apply gT
    ·rfl
    ·intro hg;try simp only [hg,ct];try simp only [hg,ct,Bt]
     exact pN
    refine uA ?_;refine u_nil ?_;refine wc (fun hc21=>?_) (fun hc21=>?_) <;> try simp only [Q0,Q1,Q2,Q3,Q4,Q5,Q6,Q7,Q8,ge_iff_le,gt_iff_lt] at hc21
    ·
     have hgo:=hc21;simp at hgo;have hltj:j < (cntS (rdByte s1).2 8).1.toNat:=by omega
     have hbadj:¬ s2.2=true:=by rw [hgo.2];decide
     clear hgo;refine WP.skip ?_;refine hK19 _ ?_;refine WP.seq fun K22 hK22=>?_;refine WP.block ?_;refine WP.dr3 [.q 0 1,.q 0 1,.q 0 0,.w 0,.q 1 1,.w 1,.q 2 2,.w 2] [3,5,7] nk3 (nk3+1) (nk3+1) tabOk (by kernel_rfl) rfl (by kernel_rfl) (by kernel_rfl) ?_;apply Exists.intro;apply Exists.intro;apply Exists.intro;refine e_step2 rfl rfl (o_fa_loc rfl th83 rfl rfl th22 (by decide) hobj ⟨rfl,rfl,rfl⟩) ?_ ?_;rotate_left;refine e_step2 rfl rfl (o_ld_locV rfl th22 rfl hobj rfl ⟨rfl,rfl,rfl⟩) ?_ ?_;rotate_left;refine e_step rfl (o_moveV (v:=.loc _ _) rfl ⟨rfl,rfl,rfl⟩) ?_;refine e_w rfl rfl (w_mcall (s96 s2 32 (by omega)) hskj rfl ⟨rfl,rfl,rfl⟩) ?_;refine e_step rfl (o_bs rfl th22 rfl th9 rfl rfl (by decide) rfl (by decide) (by decide) ⟨rfl,rfl,rfl⟩) ?_;refine e_w rfl rfl (w_apD rfl th22 rfl th9 rfl rfl (by decide) rfl (dst_keep hd4 fun t e=>(by have:=hq4 t e;exact upd_ne _ _ (by omega))) (by simp only [List.length_map,List.length_cons,List.length_nil];omega) (by simp only [List.length_map,List.length_cons,List.length_nil];omega) ⟨rfl,rfl,rfl⟩) ?_;refine e_step rfl (o_fa_loc rfl th83 rfl rfl th22 (by decide) (((upd_ne _ _ (by omega)).trans (killo_ne (fun e=>by have:=hq4 _ e;omega))).trans ((upd_ne _ _ (by omega)).trans hobj)) ⟨rfl,rfl,rfl⟩) ?_;refine e_w0 rfl rfl (w_stV rfl rfl (upd_same _ _ _) th22 rfl (((upd_ne _ _ (by omega)).trans (killo_ne (fun e=>by have:=hq4 _ e;omega))).trans ((upd_ne _ _ (by omega)).trans hobj)) (by simp) ⟨rfl,rfl,rfl⟩) ?_;refine e_nil rfl fun o26 ho26=>?_;have hdC_26:=dst_keep (o':=o26) hdj fun t e=>(by have:=hq t e;exact (ho26 t).trans ((upd_ne _ _ (by omega)).trans (((upd_ne _ _ (by omega)).trans (killo_ne (fun e=>by have:=hq4 _ e;omega))).trans (upd_ne _ _ (by omega)))));have hbM_26:=(ho26 _).trans ((upd_ne _ _ (by omega)).trans (((upd_ne _ _ (by omega)).trans (killo_ne (fun e=>by have:=hq4 _ e;omega))).trans (upd_same _ _ _)));have hbr24_26:=(ho26 _).trans ((upd_ne _ _ (by omega)).trans (upd_same _ _ _));have hbB_26:=(ho26 _).trans (upd_same _ _ _);have hk26:∀ t,t < nk∧t≠k→o26 t=o3 t:=fun t ht=>(ho26 t).trans ((upd_ne _ _ (by omega)).trans (((upd_ne _ _ (by omega)).trans (killo_ne (fun e=>by have:=hq4 _ e;omega))).trans (upd_ne _ _ (by omega))))
     ·
      refine hK22 _ ?_;refine WP.reg tabOk rfl ?_;refine um ?_;refine ub ?_;refine ua ?_;refine u_nil ?_;refine ⟨⟨j+1,(txtS s2 32).2,ns++[(txtS s2 32).1],.row _,some _,o26,(nk3+1)⟩,⟨by omega,by omega,by have:=txt_le s2 32;omega,by simp;omega,?_,hbM_26,hbB_26,hdC_26,(map_snoc ns _).symm ▸ dst_row hbr24_26,fun t e=>by injection e with e;omega,(fun t ht=>(hk26 t (by omega)).trans ((hfrj t (by omega))))⟩,by simp only;omega,Le.al ?_⟩
      ·rw [← heqj,show (cntS (rdByte s1).2 8).1.toNat - j=((cntS (rdByte s1).2 8).1.toNat - (j+1))+1 by omega];simp only [rdTr];rw [if_neg hbadj]
      ·simp only [List.forall_mem_cons];exact ⟨rfl,rfl,rfl,rfl,rfl,rfl,cnt (by omega),by simp⟩
     exact o_fa_loc rfl th83 rfl rfl th22 (by decide) ((upd_ne _ _ (by omega)).trans hobj) ⟨rfl,rfl,rfl⟩;exact o_ld_locV rfl th22 rfl ((upd_ne _ _ (by omega)).trans hobj) rfl ⟨rfl,rfl,rfl⟩
    ·
     have hfinj:rdTr (cntS (rdByte s1).2 8).1.toNat (cntS (rdByte s1).2 8).2 []=(ns,s2):=by
      rw [← heqj];by_cases hz:s2.2=true
      ·exact rdTr_bad hz
      ·have hge:(cntS (rdByte s1).2 8).1.toNat - j=0:=by (have hgo:=hc21;simp [hz] at hgo;omega)
       rw [hge];rfl
     have hrd:rdDr s1=spoilD (rdD3 rdAllR (rdByte s1).1 ns s2):=by unfold rdDr;rw [hfinj]
     refine WP.exit ?_;refine hK17 _ ?_;refine WP.seq fun K27 hK27=>?_;refine WP.frzC (pre:=[.d (.int .i64 (rdByte s1).1)]) (post:=[.d (.int .i64 0),.d (.int .i64 0),.d (.str []),.d .nil,.d .nil,.d (.int .i64 0)]) [(0,.loc k 0),(3,.d (.int .i64 (cntS s 64).1)),(4,c),(5,.d (.int .i64 i)),(6,.loc nk2 0)] nk2 hobj hd4 (Nat.le_refl _) (fun t e=>⟨rfl,rfl⟩) (fun t e=>by simp only [List.forall_mem_cons];exact ⟨rfl,rfl,(show SV.frz t (.sl 1 (ns.map .str)) c=c from dst_frz hdj (fun e2=>by have:=hq t e2;have:=hq4 t e;omega)),rfl,rfl,by simp⟩) (fun e=>by simp only [List.forall_mem_cons];exact ⟨rfl,rfl,rfl,rfl,rfl,by simp⟩) fun o9 hB9 hk9 hm9=>?_;have hF9:∀ t,t < nk2→o9 t=o3 t:=fun t ht=>hk9 t ht (fun h=>by have:=hq4 t h;omega);have hM9:=(hF9 k (by omega)).trans hskj;have hC9:=dst_keep (o':=o9) hdj fun t e=>hF9 t (by have:=hq t e;omega);refine WP.leB [.d (.int .i64 (rdByte s1).1),.d (.sl 1 (ns.map .str)),.d (.int .i64 0),.d (.int .i64 0),.d (.str []),.d (.sl 5 []),.d (.sl 1 []),.d (.int .i64 0)] hB9 ⟨D.le_refl _,D.le_refl _,D.le_refl _,D.le_refl _,D.le_refl _,rfl,rfl,D.le_refl _,trivial⟩ fun o8 hB8 hk8=>?_;have hF8:∀ t,t < nk2→o8 t=o9 t:=fun t ht=>hk8 t (by omega);have hM8:=(hF8 k (by omega)).trans hM9;have hC8:=dst_keep (o':=o8) hC9 fun t e=>hF8 t (by have:=hq t e;omega);refine wr ?_;refine uf th83 th3 hB8 ?_;refine ul th3 hB8 ?_;refine u_nil ?_;refine WP.block ?_;refine wr ?_;refine ub ?_;refine ua ?_;refine u_nil ?_;refine wc (fun hc30=>?_) (fun hc30=>?_) <;> try simp only [Q0,Q1,Q2,Q3,Q4,Q5,Q6,Q7,Q8,ge_iff_le,gt_iff_lt] at hc30
     ·
      have g1:(rdByte s1).1=1:=by simpa using hc30
      have hd3:rdD3 rdAllR (rdByte s1).1 ns s2=((⟨(rdByte s1).1,ns,(rdAllR s2).1,0⟩:Dlt),(rdAllR s2).2):=if_pos g1;have hok:okD (⟨(rdByte s1).1,ns,(rdAllR s2).1,0⟩:Dlt):=⟨rdAllR_rng s2,rdAllR_sz s2 (by omega)⟩;refine WP.reg tabOk rfl ?_;refine u_step (o_moveV (v:=.loc _ _) rfl ?_);refine u_step (g_mcall (s97 s2 (by omega)) hM8 rfl fun o31 hb31 hk31=>?_);have hB8_31:=(hk31 _ (by omega)).trans hB8;have hC8_31:=dst_keep hC8 fun t e=>hk31 t (by have:=hq t e;omega);refine uf th83 th27 hB8_31 ?_;refine u_step0 (g_sta rfl (congrArg SV.d (encV_eq _)) th27 rfl hB8_31 (by simp [valCells]) fun o32 hb32 hk32=>?_);have hC8_32:=dst_keep hC8_31 fun t e=>hk32 t (by have:=hq t e;omega);have hb31_32:=(hk32 _ (by omega)).trans hb31;refine u_nil ?_;refine hK27 _ ?_;refine WP.seq fun K33 hK33=>?_;refine wr ?_;refine ug th83 hb32 ?_;refine u_step (o_pcall (s79 _ hok) rfl ?_);refine uN ?_;refine u_nil ?_;refine wc (fun hc35=>?_) (fun hc35=>?_) <;> try simp only [Q0,Q1,Q2,Q3,Q4,Q5,Q6,Q7,Q8,ge_iff_le,gt_iff_lt] at hc35
      ·
       have hm:¬ mayD (rdD3 rdAllR (rdByte s1).1 ns s2).1=true:=by rw [hd3];simpa using hc35
       have hr:=hrd.trans (spoil_no hm);rw [hd3] at hr;refine WP.reg tabOk rfl ?_;refine u_step (o_moveV (v:=.loc _ _) rfl ?_);refine u_step (o_nc rfl hb31_32 ?_);refine uf th63 th4 hb31_32 ?_;refine u_step0 (g_st rfl rfl rfl th4 rfl hb31_32 (by first | (simp;done) | (simp [D.leaves,D.width];done) | decide) fun o36 hb36 hk36=>?_);have hC8_36:=dst_keep hC8_32 fun t e=>hk36 t (by have:=hq t e;omega);have hb32_36:=(hk36 _ (by omega)).trans hb32;refine u_nil ?_;refine hK33 _ ?_;refine WP.reg tabOk rfl ?_;refine u_step (o_moveV (v:=c) rfl ?_);refine ug th83 hb32_36 ?_
       first | refine u_step (o_bs rfl th28 rfl th83 rfl rfl (by decide) rfl (by decide) (by decide) ?_) | refine u_step (o_bs1 rfl (by simp only [encV_width]) th28 rfl th83 rfl rfl (by decide) (by decide) ?_)
       refine u_step (g_apD2 rfl th28 rfl th83 rfl rfl (by decide) rfl hC8_36 (by simp only [List.length_map,List.length_cons,List.length_nil];omega) (by simp only [List.length_map,List.length_cons,List.length_nil];omega) fun o37 hb37 hk37=>?_);have hb32_37:=(hk37 _ (by omega) (fun e=>by have:=hq _ e.symm;omega)).trans hb32_36;have hb36_37:=(hk37 _ (by omega) (fun e=>by have:=hq _ e.symm;omega)).trans hb36;refine u_step (o_assignV (v:=.row _) rfl ?_);refine u_nil ?_;refine hK10 _ ?_;refine WP.reg tabOk rfl ?_;refine um ?_;refine ub ?_;refine ua ?_;refine u_nil ?_;refine ⟨⟨i+1,(rdDr s1).2,ds++[(rdDr s1).1],.row _,some _,o37,(nk3+1)⟩,⟨by omega,by omega,by have:=rdDr_le s1;omega,by simp;omega,?_,(by rw [hr];exact hb36_37),(by rw [hr,mapD_snoc];exact dst_row hb37),fun t e=>by injection e with e;omega,(fun t ht=>(hk37 t (by omega) (fun e=>by have:=hq _ e.symm;omega)).trans ((hk36 t (by omega)).trans ((hk32 t (by omega)).trans ((hk31 t (by omega)).trans ((hF8 t (by omega)).trans ((hF9 t (by omega)).trans ((hfrj t (by omega)))))))))⟩,by simp only;omega,Le.al ?_⟩
       ·rw [← heq,show (cntS s 64).1.toNat - i=((cntS s 64).1.toNat - (i+1))+1 by omega];simp only [rdDlr];rw [if_neg hbad]
       ·simp only [List.forall_mem_cons];exact ⟨rfl,rfl,rfl,cnt (by omega),by simp⟩
      ·
       have hm:mayD (rdD3 rdAllR (rdByte s1).1 ns s2).1=true:=by rw [hd3];simpa using hc35
       have hr:=hrd.trans (spoil_yes hm);rw [hd3] at hr;refine WP.skip ?_;refine hK33 _ ?_;refine WP.reg tabOk rfl ?_;refine u_step (o_moveV (v:=c) rfl ?_);refine ug th83 hb32 ?_
       first | refine u_step (o_bs rfl th28 rfl th83 rfl rfl (by decide) rfl (by decide) (by decide) ?_) | refine u_step (o_bs1 rfl (by simp only [encV_width]) th28 rfl th83 rfl rfl (by decide) (by decide) ?_)
       refine u_step (g_apD2 rfl th28 rfl th83 rfl rfl (by decide) rfl hC8_32 (by simp only [List.length_map,List.length_cons,List.length_nil];omega) (by simp only [List.length_map,List.length_cons,List.length_nil];omega) fun o38 hb38 hk38=>?_);have hb31_38:=(hk38 _ (by omega) (fun e=>by have:=hq _ e.symm;omega)).trans hb31_32;have hb32_38:=(hk38 _ (by omega) (fun e=>by have:=hq _ e.symm;omega)).trans hb32;refine u_step (o_assignV (v:=.row _) rfl ?_);refine u_nil ?_;refine hK10 _ ?_;refine WP.reg tabOk rfl ?_;refine um ?_;refine ub ?_;refine ua ?_;refine u_nil ?_;refine ⟨⟨i+1,(rdDr s1).2,ds++[(rdDr s1).1],.row _,some _,o38,(nk3+1)⟩,⟨by omega,by omega,by have:=rdDr_le s1;omega,by simp;omega,?_,(by rw [hr];exact hb31_38),(by rw [hr,mapD_snoc];exact dst_row hb38),fun t e=>by injection e with e;omega,(fun t ht=>(hk38 t (by omega) (fun e=>by have:=hq _ e.symm;omega)).trans ((hk32 t (by omega)).trans ((hk31 t (by omega)).trans ((hF8 t (by omega)).trans ((hF9 t (by omega)).trans ((hfrj t (by omega))))))))⟩,by simp only;omega,Le.al ?_⟩
       ·rw [← heq,show (cntS s 64).1.toNat - i=((cntS s 64).1.toNat - (i+1))+1 by omega];simp only [rdDlr];rw [if_neg hbad]
       ·simp only [List.forall_mem_cons];exact ⟨rfl,rfl,rfl,cnt (by omega),by simp⟩
     ·
      have g1:¬ (rdByte s1).1=1:=by simpa using hc30
      refine wr ?_;refine ub ?_;refine ua ?_;refine u_nil ?_;refine wc (fun hc40=>?_) (fun hc40=>?_) <;> try simp only [Q0,Q1,Q2,Q3,Q4,Q5,Q6,Q7,Q8,ge_iff_le,gt_iff_lt] at hc40
      ·
       have g3:(rdByte s1).1=3:=by simpa using hc40
       have hd3:rdD3 rdAllR (rdByte s1).1 ns s2=((⟨(rdByte s1).1,ns,.mk 0 0 [] [] [],(cntS s2 999).1⟩:Dlt),(cntS s2 999).2):=(if_neg g1).trans (if_pos g3);have hok:okD (⟨(rdByte s1).1,ns,.mk 0 0 [] [] [],(cntS s2 999).1⟩:Dlt):=⟨⟨by decide,trivial⟩,by simp [szV,szVs,szN]⟩;refine WP.reg tabOk rfl ?_;refine u_step (o_moveV (v:=.loc _ _) rfl ?_);refine u_step (g_mcall (s94 s2 999) hM8 rfl fun o41 hb41 hk41=>?_);have hB8_41:=(hk41 _ (by omega)).trans hB8;have hC8_41:=dst_keep hC8 fun t e=>hk41 t (by have:=hq t e;omega);refine uf th83 th3 hB8_41 ?_;refine u_step0 (g_st rfl rfl rfl th3 rfl hB8_41 (by first | (simp;done) | (simp [D.leaves,D.width];done) | decide) fun o42 hb42 hk42=>?_);have hC8_42:=dst_keep hC8_41 fun t e=>hk42 t (by have:=hq t e;omega);have hb41_42:=(hk42 _ (by omega)).trans hb41;refine u_nil ?_;refine hK27 _ ?_;refine WP.seq fun K43 hK43=>?_;refine wr ?_;refine ug th83 hb42 ?_;refine u_step (o_pcall (s79 _ hok) rfl ?_);refine uN ?_;refine u_nil ?_;refine wc (fun hc45=>?_) (fun hc45=>?_) <;> try simp only [Q0,Q1,Q2,Q3,Q4,Q5,Q6,Q7,Q8,ge_iff_le,gt_iff_lt] at hc45
       ·
        have hm:¬ mayD (rdD3 rdAllR (rdByte s1).1 ns s2).1=true:=by rw [hd3];simpa using hc45
        have hr:=hrd.trans (spoil_no hm);rw [hd3] at hr;refine WP.reg tabOk rfl ?_;refine u_step (o_moveV (v:=.loc _ _) rfl ?_);refine u_step (o_nc rfl hb41_42 ?_);refine uf th63 th4 hb41_42 ?_;refine u_step0 (g_st rfl rfl rfl th4 rfl hb41_42 (by first | (simp;done) | (simp [D.leaves,D.width];done) | decide) fun o46 hb46 hk46=>?_);have hC8_46:=dst_keep hC8_42 fun t e=>hk46 t (by have:=hq t e;omega);have hb42_46:=(hk46 _ (by omega)).trans hb42;refine u_nil ?_;refine hK43 _ ?_;refine WP.reg tabOk rfl ?_;refine u_step (o_moveV (v:=c) rfl ?_);refine ug th83 hb42_46 ?_
        first | refine u_step (o_bs rfl th28 rfl th83 rfl rfl (by decide) rfl (by decide) (by decide) ?_) | refine u_step (o_bs1 rfl (by simp only [encV_width]) th28 rfl th83 rfl rfl (by decide) (by decide) ?_)
        refine u_step (g_apD2 rfl th28 rfl th83 rfl rfl (by decide) rfl hC8_46 (by simp only [List.length_map,List.length_cons,List.length_nil];omega) (by simp only [List.length_map,List.length_cons,List.length_nil];omega) fun o47 hb47 hk47=>?_);have hb42_47:=(hk47 _ (by omega) (fun e=>by have:=hq _ e.symm;omega)).trans hb42_46;have hb46_47:=(hk47 _ (by omega) (fun e=>by have:=hq _ e.symm;omega)).trans hb46;refine u_step (o_assignV (v:=.row _) rfl ?_);refine u_nil ?_;refine hK10 _ ?_;refine WP.reg tabOk rfl ?_;refine um ?_;refine ub ?_;refine ua ?_;refine u_nil ?_;refine ⟨⟨i+1,(rdDr s1).2,ds++[(rdDr s1).1],.row _,some _,o47,(nk3+1)⟩,⟨by omega,by omega,by have:=rdDr_le s1;omega,by simp;omega,?_,(by rw [hr];exact hb46_47),(by rw [hr,mapD_snoc];exact dst_row hb47),fun t e=>by injection e with e;omega,(fun t ht=>(hk47 t (by omega) (fun e=>by have:=hq _ e.symm;omega)).trans ((hk46 t (by omega)).trans ((hk42 t (by omega)).trans ((hk41 t (by omega)).trans ((hF8 t (by omega)).trans ((hF9 t (by omega)).trans ((hfrj t (by omega)))))))))⟩,by simp only;omega,Le.al ?_⟩
        ·rw [← heq,show (cntS s 64).1.toNat - i=((cntS s 64).1.toNat - (i+1))+1 by omega];simp only [rdDlr];rw [if_neg hbad]
        ·simp only [List.forall_mem_cons];exact ⟨rfl,rfl,rfl,cnt (by omega),by simp⟩
       ·
        have hm:mayD (rdD3 rdAllR (rdByte s1).1 ns s2).1=true:=by rw [hd3];simpa using hc45
        have hr:=hrd.trans (spoil_yes hm);rw [hd3] at hr;refine WP.skip ?_;refine hK43 _ ?_;refine WP.reg tabOk rfl ?_;refine u_step (o_moveV (v:=c) rfl ?_);refine ug th83 hb42 ?_
        first | refine u_step (o_bs rfl th28 rfl th83 rfl rfl (by decide) rfl (by decide) (by decide) ?_) | refine u_step (o_bs1 rfl (by simp only [encV_width]) th28 rfl th83 rfl rfl (by decide) (by decide) ?_)
        refine u_step (g_apD2 rfl th28 rfl th83 rfl rfl (by decide) rfl hC8_42 (by simp only [List.length_map,List.length_cons,List.length_nil];omega) (by simp only [List.length_map,List.length_cons,List.length_nil];omega) fun o48 hb48 hk48=>?_);have hb41_48:=(hk48 _ (by omega) (fun e=>by have:=hq _ e.symm;omega)).trans hb41_42;have hb42_48:=(hk48 _ (by omega) (fun e=>by have:=hq _ e.symm;omega)).trans hb42;refine u_step (o_assignV (v:=.row _) rfl ?_);refine u_nil ?_;refine hK10 _ ?_;refine WP.reg tabOk rfl ?_;refine um ?_;refine ub ?_;refine ua ?_;refine u_nil ?_;refine ⟨⟨i+1,(rdDr s1).2,ds++[(rdDr s1).1],.row _,some _,o48,(nk3+1)⟩,⟨by omega,by omega,by have:=rdDr_le s1;omega,by simp;omega,?_,(by rw [hr];exact hb41_48),(by rw [hr,mapD_snoc];exact dst_row hb48),fun t e=>by injection e with e;omega,(fun t ht=>(hk48 t (by omega) (fun e=>by have:=hq _ e.symm;omega)).trans ((hk42 t (by omega)).trans ((hk41 t (by omega)).trans ((hF8 t (by omega)).trans ((hF9 t (by omega)).trans ((hfrj t (by omega))))))))⟩,by simp only;omega,Le.al ?_⟩
        ·rw [← heq,show (cntS s 64).1.toNat - i=((cntS s 64).1.toNat - (i+1))+1 by omega];simp only [rdDlr];rw [if_neg hbad]
        ·simp only [List.forall_mem_cons];exact ⟨rfl,rfl,rfl,cnt (by omega),by simp⟩
      ·
       have g3:¬ (rdByte s1).1=3:=by simpa using hc40
       have hd3:rdD3 rdAllR (rdByte s1).1 ns s2=((⟨(rdByte s1).1,ns,.mk 0 0 [] [] [],0⟩:Dlt),s2):=(if_neg g1).trans (if_neg g3);have hok:okD (⟨(rdByte s1).1,ns,.mk 0 0 [] [] [],0⟩:Dlt):=⟨⟨by decide,trivial⟩,by simp [szV,szVs,szN]⟩;refine WP.skip ?_;refine hK27 _ ?_;refine WP.seq fun K49 hK49=>?_;refine wr ?_;refine ug th83 hB8 ?_;refine u_step (o_pcall (s79 _ hok) rfl ?_);refine uN ?_;refine u_nil ?_;refine wc (fun hc51=>?_) (fun hc51=>?_) <;> try simp only [Q0,Q1,Q2,Q3,Q4,Q5,Q6,Q7,Q8,ge_iff_le,gt_iff_lt] at hc51
       ·
        have hm:¬ mayD (rdD3 rdAllR (rdByte s1).1 ns s2).1=true:=by rw [hd3];simpa using hc51
        have hr:=hrd.trans (spoil_no hm);rw [hd3] at hr;refine WP.reg tabOk rfl ?_;refine u_step (o_moveV (v:=.loc _ _) rfl ?_);refine u_step (o_nc rfl hM8 ?_);refine uf th63 th4 hM8 ?_;refine u_step0 (g_st rfl rfl rfl th4 rfl hM8 (by first | (simp;done) | (simp [D.leaves,D.width];done) | decide) fun o52 hb52 hk52=>?_);have hB8_52:=(hk52 _ (by omega)).trans hB8;have hC8_52:=dst_keep hC8 fun t e=>hk52 t (by have:=hq t e;omega);refine u_nil ?_;refine hK49 _ ?_;refine WP.reg tabOk rfl ?_;refine u_step (o_moveV (v:=c) rfl ?_);refine ug th83 hB8_52 ?_
        first | refine u_step (o_bs rfl th28 rfl th83 rfl rfl (by decide) rfl (by decide) (by decide) ?_) | refine u_step (o_bs1 rfl (by simp only [encV_width]) th28 rfl th83 rfl rfl (by decide) (by decide) ?_)
        refine u_step (g_apD2 rfl th28 rfl th83 rfl rfl (by decide) rfl hC8_52 (by simp only [List.length_map,List.length_cons,List.length_nil];omega) (by simp only [List.length_map,List.length_cons,List.length_nil];omega) fun o53 hb53 hk53=>?_);have hB8_53:=(hk53 _ (by omega) (fun e=>by have:=hq _ e.symm;omega)).trans hB8_52;have hb52_53:=(hk53 _ (by omega) (fun e=>by have:=hq _ e.symm;omega)).trans hb52;refine u_step (o_assignV (v:=.row _) rfl ?_);refine u_nil ?_;refine hK10 _ ?_;refine WP.reg tabOk rfl ?_;refine um ?_;refine ub ?_;refine ua ?_;refine u_nil ?_;refine ⟨⟨i+1,(rdDr s1).2,ds++[(rdDr s1).1],.row _,some _,o53,(nk3+1)⟩,⟨by omega,by omega,by have:=rdDr_le s1;omega,by simp;omega,?_,(by rw [hr];exact hb52_53),(by rw [hr,mapD_snoc];exact dst_row hb53),fun t e=>by injection e with e;omega,(fun t ht=>(hk53 t (by omega) (fun e=>by have:=hq _ e.symm;omega)).trans ((hk52 t (by omega)).trans ((hF8 t (by omega)).trans ((hF9 t (by omega)).trans ((hfrj t (by omega)))))))⟩,by simp only;omega,Le.al ?_⟩
        ·rw [← heq,show (cntS s 64).1.toNat - i=((cntS s 64).1.toNat - (i+1))+1 by omega];simp only [rdDlr];rw [if_neg hbad]
        ·simp only [List.forall_mem_cons];exact ⟨rfl,rfl,rfl,cnt (by omega),by simp⟩
       ·
        have hm:mayD (rdD3 rdAllR (rdByte s1).1 ns s2).1=true:=by rw [hd3];simpa using hc51
        have hr:=hrd.trans (spoil_yes hm);rw [hd3] at hr;refine WP.skip ?_;refine hK49 _ ?_;refine WP.reg tabOk rfl ?_;refine u_step (o_moveV (v:=c) rfl ?_);refine ug th83 hB8 ?_
        first | refine u_step (o_bs rfl th28 rfl th83 rfl rfl (by decide) rfl (by decide) (by decide) ?_) | refine u_step (o_bs1 rfl (by simp only [encV_width]) th28 rfl th83 rfl rfl (by decide) (by decide) ?_)
        refine u_step (g_apD2 rfl th28 rfl th83 rfl rfl (by decide) rfl hC8 (by simp only [List.length_map,List.length_cons,List.length_nil];omega) (by simp only [List.length_map,List.length_cons,List.length_nil];omega) fun o54 hb54 hk54=>?_);have hM8_54:=(hk54 _ (by omega) (fun e=>by have:=hq _ e.symm;omega)).trans hM8;have hB8_54:=(hk54 _ (by omega) (fun e=>by have:=hq _ e.symm;omega)).trans hB8;refine u_step (o_assignV (v:=.row _) rfl ?_);refine u_nil ?_;refine hK10 _ ?_;refine WP.reg tabOk rfl ?_;refine um ?_;refine ub ?_;refine ua ?_;refine u_nil ?_;refine ⟨⟨i+1,(rdDr s1).2,ds++[(rdDr s1).1],.row _,some _,o54,(nk3+1)⟩,⟨by omega,by omega,by have:=rdDr_le s1;omega,by simp;omega,?_,(by rw [hr];exact hM8_54),(by rw [hr,mapD_snoc];exact dst_row hb54),fun t e=>by injection e with e;omega,(fun t ht=>(hk54 t (by omega) (fun e=>by have:=hq _ e.symm;omega)).trans ((hF8 t (by omega)).trans ((hF9 t (by omega)).trans ((hfrj t (by omega))))))⟩,by simp only;omega,Le.al ?_⟩
        ·rw [← heq,show (cntS s 64).1.toNat - i=((cntS s 64).1.toNat - (i+1))+1 by omega];simp only [rdDlr];rw [if_neg hbad]
        ·simp only [List.forall_mem_cons];exact ⟨rfl,rfl,rfl,cnt (by omega),by simp⟩
   ·
    refine ⟨by omega,by omega,by omega,by simp,rfl,hb16,hb14_16,hd_16,rfl,by simp,(fun t ht=>(hk16 t (by omega)).trans ((hk14 t (by omega)).trans ((hk13 t (by omega)).trans ((hk12 t (by omega)).trans ((hfr t (by omega)))))))⟩
   ·
    refine Le.al ?_;simp only [List.forall_mem_cons];exact ⟨rfl,rfl,rfl,rfl,rfl,rfl,rfl,by simp⟩
  ·
   have hfin:rdDlr (cntS s 64).1.toNat (cntS s 64).2 []=(ds,s1):=by
    rw [← heq];by_cases hz:s1.2=true
    ·exact rdDlr_bad hz
    ·have hge:(cntS s 64).1.toNat - i=0:=by (have hgo:=hc9;simp [hz] at hgo;omega)
     rw [hge];rfl
   have hrd:rdDsR s=rdDq (ds,s1):=by unfold rdDsR;rw [hfin]
   refine WP.exit ?_;refine hK5 _ ?_;refine WP.seq fun K55 hK55=>?_;refine wr ?_;refine u_step (o_moveV (v:=.loc _ _) rfl ?_);refine u_step (o_nc rfl hsk ?_);refine uf th63 th4 hsk ?_;refine ul th4 hsk ?_;refine u_nil ?_;refine wc (fun hc57=>?_) (fun hc57=>?_) <;> try simp only [Q0,Q1,Q2,Q3,Q4,Q5,Q6,Q7,Q8,ge_iff_le,gt_iff_lt] at hc57
   ·
    have hr:rdDsR s=([],s1):=hrd.trans (rdDq_no (by simpa using hc57));refine wr ?_;refine ua ?_;refine u_nil ?_;refine WP.ret ?_;refine retMW_ok rfl ?_ (by omega) (by rw [hr];exact hsk) (fun t ht=>(hfr t (by omega)));rw [hr];exact rfl
   ·
    have hr:rdDsR s=(ds,s1):=hrd.trans (rdDq_ok (by simpa using hc57));refine WP.skip ?_;refine hK55 _ ?_;refine WP.frzS (fun y=>[(0,.loc k 0),(4,.d y)]) nk hd (fun t h1 h2=>by subst h2;simp only [List.forall_mem_cons];exact ⟨rfl,(show SV.frz t (.sl 8 (ds.map encD)) (.row t)=_ from if_pos rfl),by simp⟩) (fun h2=>by subst h2;simp only [List.forall_mem_cons];exact ⟨rfl,rfl,by simp⟩) fun y o9 hy hk9=>?_;have hF9:∀ t,t < nk→o9 t=o2 t:=fun t ht=>hk9 t ht (fun h=>by have:=hq t h;omega);have hM9:=(hF9 _ hkn).trans hsk;refine wr ?_;refine um ?_;refine ua ?_;refine u_nil ?_;refine WP.ret ?_;refine retMW_ok rfl ?_ (by omega) (by rw [hr];exact hM9) (fun t ht=>(hF9 t (by omega)).trans ((hfr t (by omega))));rw [hr];exact hy
 ·
  refine ⟨by omega,by omega,by omega,by simp,rfl,hb3,rfl,by simp,(fun t ht=>(hk3 t (by omega)))⟩
 ·
  refine Le.al ?_;simp only [List.forall_mem_cons];exact ⟨rfl,rfl,rfl,rfl,by simp⟩
end Go.Proofs.YtpkcbdhjnnnkbaaGreat.Abs

set_option linter.unusedVariables false
set_option linter.unusedSimpArgs false
set_option maxRecDepth 10000
set_option maxHeartbeats 1000000
namespace Go.Proofs.YtpkcbdhjnnnkbaaGreat.Abs
open Go
theorem rdTs_bad:∀ (n:Nat) {s:SB} (ns:List Str),s.2=true→(rdTs n s ns).2.2=true
 | 0,s,ns,h=>h
 | n+1,s,ns,h=>rdTs_bad n _ (by rw [txt_bad2 h])
theorem rdTs_q:∀ (n:Nat) (s:SB) (ns:List Str),(rdTs n s ns).2.2=(rdTr n s ns).2.2∧((rdTs n s ns).2.2=false→rdTs n s ns=rdTr n s ns)
 | 0,s,ns=>⟨rfl,fun _=>rfl⟩
 | n+1,s,ns=>by
  by_cases hb:s.2=true
  ·have h1:=rdTs_bad (n+1) ns hb;rw [rdTr_bad hb];exact ⟨h1.trans hb.symm,fun e=>by rw [h1] at e;cases e⟩
  ·simp only [rdTs,rdTr];rw [if_neg hb];exact rdTs_q n _ _
theorem cnt_bad3 {s:SB} {m:Int} (h:s.2=true):(cntS s m).2.2=true:=by rw [cnt_bad2 h]
theorem rdAllB {s:SB} (h:s.2=true):(rdAll s).2.2=true:=by rw [rdAll_bad h]
theorem rdAllRB {s:SB} (h:s.2=true):(rdAllR s).2.2=true:=by rw [rdAllR_bad h];exact h
theorem rdD3_bad {rv:SB→Val×SB} (hv:∀ s,s.2=true→(rv s).2.2=true) {k:Int} {ns:List Str} {s:SB} (h:s.2=true):(rdD3 rv k ns s).2.2=true:=by
 unfold rdD3;split
 ·exact hv s h
 ·split
  ·exact cnt_bad3 h
  ·exact h
theorem spoil_bad {p:Dlt×SB} (h:p.2.2=true):(spoilD p).2.2=true:=by unfold spoilD;simp only;split <;> simp [h]
theorem spoil_q {d:Dlt} {a b:SB} (h:SBq a b):(spoilD (d,a)).1=(spoilD (d,b)).1∧SBq (spoilD (d,a)).2 (spoilD (d,b)).2:=by
 refine ⟨rfl,?_⟩;unfold spoilD;simp only;split
 ·exact h
 ·exact SBq.bad rfl rfl
theorem rdD3_q (k:Int) (ns:List Str) (s:SB):∃ d a b,rdD3 rdAll k ns s=(d,a)∧rdD3 rdAllR k ns s=(d,b)∧SBq a b:=by
 unfold rdD3;split
 ·have h:=rdAll_q s;exact ⟨_,_,_,rfl,by rw [h.1],h.2⟩
 ·split
  ·exact ⟨_,_,_,rfl,rfl,SBq.refl _⟩
  ·exact ⟨_,_,_,rfl,rfl,SBq.refl _⟩
theorem rdDl_bad {s:SB} (h:s.2=true):(rdDl s).2.2=true:=by
 unfold rdDl;exact spoil_bad (rdD3_bad (fun _=>rdAllB) (rdTs_bad _ _ (cnt_bad3 (byte_bad h))))
theorem rdDl_q (s:SB):(rdDl s).2.2=(rdDr s).2.2∧((rdDl s).2.2=false→rdDl s=rdDr s):=by
 have hp:=rdTs_q (cntS (rdByte s).2 8).1.toNat (cntS (rdByte s).2 8).2 [];cases hz:(rdTs (cntS (rdByte s).2 8).1.toNat (cntS (rdByte s).2 8).2 []).2.2 with
 | true=>
  have h1:(rdDl s).2.2=true:=by unfold rdDl;exact spoil_bad (rdD3_bad (fun _=>rdAllB) hz)
  have h2:(rdDr s).2.2=true:=by unfold rdDr;exact spoil_bad (rdD3_bad (fun _=>rdAllRB) (hp.1 ▸ hz))
  exact ⟨h1.trans h2.symm,fun e=>by rw [h1] at e;cases e⟩
 | false=>
  have he:=hp.2 hz;unfold rdDl rdDr;rw [← he];obtain ⟨d,a,b,h1,h2,h3⟩:=rdD3_q (rdByte s).1 (rdTs (cntS (rdByte s).2 8).1.toNat (cntS (rdByte s).2 8).2 []).1 (rdTs (cntS (rdByte s).2 8).1.toNat (cntS (rdByte s).2 8).2 []).2;rw [h1,h2];have h4:=spoil_q (d:=d) h3;exact ⟨h4.2.1,fun e=>Prod.ext h4.1 (h4.2.2 e)⟩
theorem rdDls_bad:∀ (n:Nat) {s:SB} (ds:List Dlt),s.2=true→(rdDls n s ds).2.2=true
 | 0,s,ds,h=>h
 | n+1,s,ds,h=>rdDls_bad n _ (rdDl_bad h)
theorem rdDls_q:∀ (n:Nat) (s:SB) (ds:List Dlt),(rdDls n s ds).2.2=(rdDlr n s ds).2.2∧((rdDls n s ds).2.2=false→rdDls n s ds=rdDlr n s ds)
 | 0,s,ds=>⟨rfl,fun _=>rfl⟩
 | n+1,s,ds=>by
  by_cases hb:s.2=true
  ·have h1:=rdDls_bad (n+1) ds hb;rw [rdDlr_bad hb];exact ⟨h1.trans hb.symm,fun e=>by rw [h1] at e;cases e⟩
  ·have hq:=rdDl_q s;simp only [rdDls,rdDlr];rw [if_neg hb];cases hz:(rdDl s).2.2 with
   | true=>
    have h1:=rdDls_bad n (if true=true then ds else ds++[(rdDl s).1]) hz;rw [rdDlr_bad (hq.1 ▸ hz)];exact ⟨h1.trans (hq.1 ▸ hz).symm,fun e=>by rw [h1] at e;cases e⟩
   | false=>
    rw [if_neg (by decide),hq.2 hz];exact rdDls_q n _ _
theorem rdDq_q {a b:List Dlt×SB} (h:a.2.2=b.2.2∧(a.2.2=false→a=b)):(rdDq a).1=(rdDq b).1∧SBq (rdDq a).2 (rdDq b).2:=by
 cases hz:a.2.2 with
 | true=>
  rw [rdDq_no hz,rdDq_no (h.1 ▸ hz)];exact ⟨rfl,SBq.bad hz (h.1 ▸ hz)⟩
 | false=>rw [h.2 hz];exact ⟨rfl,SBq.refl _⟩
theorem rdDs_q {a b:SB} (h:SBq a b):(rdDsP a).1=(rdDsR b).1∧SBq (rdDsP a).2 (rdDsR b).2:=by
 rcases h.cases with rfl | ⟨ha,hb⟩
 ·exact rdDq_q (rdDls_q _ _ _)
 ·have h1:=rdDls_bad (cntS a 64).1.toNat [] (cnt_bad3 (m:=64) ha);have h2:(rdDlr (cntS b 64).1.toNat (cntS b 64).2 []).2.2=true:=by rw [rdDlr_bad (cnt_bad3 hb)];exact cnt_bad3 hb
  unfold rdDsP rdDsR;rw [rdDq_no h1,rdDq_no h2];exact ⟨rfl,SBq.bad h1 h2⟩
theorem rdDls_le:∀ (n:Nat) (s:SB) (ds:List Dlt),(rdDls n s ds).2.1.length≤s.1.length
 | 0,s,ds=>Nat.le_refl _
 | n+1,s,ds=>Nat.le_trans (rdDls_le n _ _) (rdDl_le s)
theorem rdDlr_le:∀ (n:Nat) (s:SB) (ds:List Dlt),(rdDlr n s ds).2.1.length≤s.1.length
 | 0,s,ds=>Nat.le_refl _
 | n+1,s,ds=>by
  simp only [rdDlr];split
  ·exact Nat.le_refl _
  ·exact Nat.le_trans (rdDlr_le n _ _) (rdDr_le s)
theorem rdDsP_le (s:SB):(rdDsP s).2.1.length≤s.1.length:=Nat.le_trans (rdDls_le _ _ _) (cnt_le _ _)
theorem rdDsR_le (s:SB):(rdDsR s).2.1.length≤s.1.length:=Nat.le_trans (rdDlr_le _ _ _) (cnt_le _ _)
theorem byte_q {a b:SB} (h:SBq a b):(rdByte a).1=(rdByte b).1∧SBq (rdByte a).2 (rdByte b).2:=by
 rcases h.cases with rfl | ⟨ha,hb⟩
 ·exact ⟨rfl,SBq.refl _⟩
 ·rw [rdByte_no (.inl ha),rdByte_no (.inl hb)];exact ⟨rfl,SBq.bad rfl rfl⟩
theorem cnt_q {a b:SB} {m:Int} (h:SBq a b):(cntS a m).1=(cntS b m).1∧SBq (cntS a m).2 (cntS b m).2:=by
 rcases h.cases with rfl | ⟨ha,hb⟩
 ·exact ⟨rfl,SBq.refl _⟩
 ·rw [cnt_bad2 ha,cnt_bad2 hb];exact ⟨rfl,SBq.bad rfl rfl⟩
theorem txt_q {a b:SB} {m:Int} (h:SBq a b):(txtS a m).1=(txtS b m).1∧SBq (txtS a m).2 (txtS b m).2:=by
 rcases h.cases with rfl | ⟨ha,hb⟩
 ·exact ⟨rfl,SBq.refl _⟩
 ·rw [txt_bad2 ha,txt_bad2 hb];exact ⟨rfl,SBq.bad rfl rfl⟩
theorem all_q {a b:SB} (h:SBq a b):(rdAll a).1=(rdAllR b).1∧SBq (rdAll a).2 (rdAllR b).2:=by
 rcases h.cases with rfl | ⟨ha,hb⟩
 ·exact rdAll_q _
 ·rw [rdAll_bad ha,rdAllR_bad hb];exact ⟨rfl,SBq.bad rfl hb⟩
end Go.Proofs.YtpkcbdhjnnnkbaaGreat.Abs

set_option linter.unusedVariables false
set_option linter.unusedSimpArgs false
set_option maxRecDepth 10000
set_option maxHeartbeats 1000000
namespace Go.Proofs.YtpkcbdhjnnnkbaaGreat.Abs
open Go
theorem left_q {a b:SB} (h:SBq a b):leftS a=leftS b:=by
 rcases h.cases with rfl | ⟨ha,hb⟩
 ·rfl
 ·simp [leftS,ha,hb]
theorem PSpec.wk {P:Program} {f:FuncId} {us:List SV} {x x':D} (h:PSpec P f us (.d x')) (hx:D.le x' x):PSpec P f us (.d x):=fun o nk=>Spec.weak (Q:=fun o' nk'=>o'=o∧nk'=nk) ((h o nk).mono fun r o' nk' h=>⟨⟨x',h.1,hx⟩,h.2⟩)
theorem fn36:FnOk Tryz.prog 36 6 [2] (bodyOf Tryz.f36):=⟨Tryz.f36,Tryz.func36,by kernel_rfl,by decide,by kernel_rfl,by kernel_rfl⟩
theorem s36 (b:List UInt8) (o:Nat→Option AO) (nk:Nat):Spec Tryz.prog 36 [.d (.sl 1 (b.map encB))] o nk (fun r' o' nk'=>r'=.loc nk 0∧o'=upd o nk (some (.box (srcS (b,false))))∧nk'=nk+1):=by
 refine Spec.of_body fn36 (by simp) ?_;refine wr ?_;refine ua ?_;refine u_nil ?_;refine wr ?_;refine um ?_;refine u_step (o_bu rfl th102 rfl rfl ?_);refine u_step (g_box rfl fun o3 hb3 hk3=>?_);refine u_step (o_assignV (v:=.loc _ _) rfl ?_);refine u_nil ?_;refine WP.ret ?_;refine ⟨rfl,funext fun t=>?_,rfl⟩;by_cases ht:t=nk
 ·subst ht;rw [upd_same];exact hb3
 ·rw [upd_ne _ _ ht];exact (show ∀ t:Nat,t≠nk→o3 t=o t from (fun t ht=>(hk3 t (by omega)))) t ht
end Go.Proofs.YtpkcbdhjnnnkbaaGreat.Abs

set_option linter.unusedVariables false
set_option linter.unusedSimpArgs false
set_option maxRecDepth 10000
namespace Go.Proofs.YtpkcbdhjnnnkbaaGreat.Abs
open Go
theorem any_bad (s:Str):s.any badC=decide ((36:UInt8)∈s∨(0:UInt8)∈s):=by
 rw [Bool.eq_iff_iff];simp only [List.any_eq_true,decide_eq_true_eq,badC];constructor
 ·rintro ⟨x,hx,rfl | rfl⟩
  ·exact .inl hx
  ·exact .inr hx
 ·rintro (h | h)
  ·exact ⟨_,h,.inl rfl⟩
  ·exact ⟨_,h,.inr rfl⟩
theorem badC_get {s:Str} {i:Nat} (h:i < s.length):decide ((s[((i:Int)).toNat]?.getD 0).toNat=36∨(s[((i:Int)).toNat]?.getD 0).toNat=0)=badC (s[i]'h):=by
 rw [badC_nat];simp [h]
theorem fn150:FnOk Tryz.prog 150 55 [4] (bodyOf Tryz.f150):=⟨Tryz.f150,Tryz.func150,by kernel_rfl,by decide,by kernel_rfl,by kernel_rfl⟩
theorem s150 (s:Str):PSpec Tryz.prog 150 [.d (.str s),.d (.str [36,0])] (.d (.int .i64 (anyI s))):=by
 refine PSpec.bd fun hbd=>?_;have hx:s.length≤9223372036854775807:=hbd.1;refine PSpec.of fn150 (by simp) fun o nk=>?_;refine wr ?_;refine ua ?_;refine u_nil ?_;refine WP.seq fun K2 hK2=>?_;refine wr ?_;refine um ?_;refine u_step (o_bin_str rfl (show _=SV.d (.str []) from rfl) rfl ?_);refine u_nil ?_;refine wc (fun hc4=>?_) (fun hc4=>?_) <;> try simp only [Q0,Q1,Q2,Q3,Q4,Q5,Q6,Q7,Q8,ge_iff_le,gt_iff_lt] at hc4
 ·
  exact absurd hc4 (by decide)
 ·
  refine WP.skip ?_;refine hK2 _ ?_;refine WP.seq fun K5 hK5=>?_;refine wr ?_;refine um ?_;refine u_step (o_len_str rfl th9 rfl ?_);refine ub ?_;refine u_nil ?_;refine wc (fun hc7=>?_) (fun hc7=>?_) <;> try simp only [Q0,Q1,Q2,Q3,Q4,Q5,Q6,Q7,Q8,ge_iff_le,gt_iff_lt] at hc7
  ·
   exact absurd hc7 (by decide)
  ·
   refine WP.skip ?_;refine hK5 _ ?_;refine WP.seq fun K8 hK8=>?_;refine wr ?_;refine um ?_;refine u_step (o_len_str rfl th9 rfl ?_);refine u_step (o_pcall (s176 _) rfl ?_);refine u_nil ?_;refine wc (fun hc10=>?_) (fun hc10=>?_) <;> try simp only [Q0,Q1,Q2,Q3,Q4,Q5,Q6,Q7,Q8,ge_iff_le,gt_iff_lt] at hc10
   ·
    refine wr ?_;refine um ?_;refine u_step (o_pcall (s177) rfl ?_);refine u_step (o_moveV (v:=.tup _) rfl ?_);refine ue ?_;refine ue ?_;refine u_step (g_alloc th149 rfl fun o12 hb12 hk12=>?_);refine u_step0 (g_sta rfl rfl th149 rfl hb12 (by simp [setA]) fun o13 hb13 hk13=>?_);have hb13:_=some (AO.box ((setA 2).map .d)):=(hb13).trans (by simp [setA]);refine ua ?_;refine u_nil ?_;refine wr ?_;refine um ?_;refine u_nil ?_;refine wc (fun hc15=>?_) (fun hc15=>?_) <;> try simp only [Q0,Q1,Q2,Q3,Q4,Q5,Q6,Q7,Q8,ge_iff_le,gt_iff_lt] at hc15
    ·
     refine WP.seq fun K16 hK16=>?_;refine wr ?_;refine ua ?_;refine u_nil ?_;refine WP.block ?_;refine WP.loopL (ι:=Nat) (fun i=>⟨al [(0,.d (.str s)),(6,.loc nk 0),(8,.d (.int .i64 i))],o13,(nk+1)⟩) (fun i=>i≤s.length∧∀ (j:Nat) (hj:j < s.length),j < i→badC (s[j]'hj)=false) (fun i=>s.length - i) (fun i hA=>?_) 0 ?_ ?_
     ·
      obtain ⟨hle_i,hin_i⟩:=hA;refine WP.seq fun K18 hK18=>?_;refine wr ?_;refine um ?_;refine um ?_;refine u_step (o_len_str rfl th9 rfl ?_);refine ub ?_;refine u_nil ?_;refine wc (fun hc20=>?_) (fun hc20=>?_) <;> try simp only [Q0,Q1,Q2,Q3,Q4,Q5,Q6,Q7,Q8,ge_iff_le,gt_iff_lt] at hc20
      ·
       refine WP.skip ?_;refine hK18 _ ?_;refine WP.seq fun K21 hK21=>?_;refine WP.block ?_;refine wr ?_;refine um ?_;refine um ?_;refine u_step (o_ix rfl rfl th9 rfl ?_ ?_ ?_)
       ·omega
       ·simp;omega
       refine u_step (o_scall (s178 (c:=(s[((i:Int)).toNat]?.getD 0).toNat) hb13 (by omega) (UInt8.toNat_lt _)) rfl ?_);refine u_nil ?_;refine wc (fun hc23=>?_) (fun hc23=>?_) <;> try simp only [Q0,Q1,Q2,Q3,Q4,Q5,Q6,Q7,Q8,ge_iff_le,gt_iff_lt] at hc23
       ·
        refine wr ?_;refine um ?_;refine ua ?_;refine u_nil ?_;refine WP.ret ?_;refine ret_ok rfl ?_ (by omega) (fun t ht=>(hk13 t (by omega)).trans ((hk12 t (by omega))));refine congrArg (D.int .i64) ?_;exact (firstI_at (p:=badC) (xs:=s) (i:=i) (by omega) (by rw [← badC_get (by omega)];exact decide_eq_true hc23) hin_i).symm
       ·
        refine WP.skip ?_;refine hK21 _ ?_;refine WP.reg tabOk rfl ?_;refine um ?_;refine ub ?_;refine ua ?_;refine u_nil ?_;refine ⟨i+1,⟨by omega,?_⟩,by omega,?_⟩
        ·intro j hj h1;by_cases h2:j=i
         ·subst h2;rw [← badC_get (by omega)];exact decide_eq_false hc23
         ·exact hin_i j hj (by omega)
        ·refine Le.al ?_;simp only [List.forall_mem_cons];exact ⟨rfl,rfl,cnt (by omega),by simp⟩
      ·
       refine WP.exit ?_;refine hK16 _ ?_;refine wr ?_;refine ua ?_;refine u_nil ?_;refine WP.ret ?_;refine ret_ok rfl ?_ (by omega) (fun t ht=>(hk13 t (by omega)).trans ((hk12 t (by omega))));refine congrArg (D.int .i64) ?_;exact (firstI_none (p:=badC) (xs:=s) fun j hj=>hin_i j hj (by omega)).symm
     ·
      simp
     ·
      refine Le.al ?_;simp only [List.forall_mem_cons];exact ⟨rfl,rfl,rfl,by simp⟩
    ·
     cases hc15
   ·
    refine WP.skip ?_;refine hK8 _ ?_;refine WP.seq fun K26 hK26=>?_;refine wr ?_;refine um ?_;refine u_step (g_range rfl th9 rfl fun o28 hb28 hk28=>?_);refine u_nil ?_;refine WP.block ?_;refine WP.loopL (ι:=Nat×(Nat→Option AO)) (fun ⟨i,o2⟩=>⟨al [(0,.d (.str s)),(1,.d (.str [36,0])),(45,.raw nk)],o2,(nk+1)⟩) (fun ⟨i,o2⟩=>i≤s.length∧o2 nk=some (.raw (itOb s i))∧(∀ t,t < nk→o2 t=o t)∧∀ (j:Nat) (hj:j < s.length),j < i→badC (s[j]'hj)=false) (fun ⟨i,o2⟩=>s.length - i) (fun ⟨i,o2⟩ hA=>?_) ⟨0,o28⟩ ?_ ?_
    ·
     obtain ⟨hle,hob,hfr,hin⟩:=hA;refine wr ?_;refine u_step (g_next rfl hob (fun hp30 o30 hb30 hk30=>?_) (fun hp30=>?_))
     ·
      have hlt:i < s.length:=hp30;obtain ⟨hd1,hd2,hd3,hd4⟩:=dec_at hlt;refine ue ?_;refine u_nil ?_;refine WP.seq fun K31 hK31=>?_;refine WP.cond rfl (fun hc32=>?_) (fun hc32=>by cases hc32);refine WP.skip ?_;refine hK31 _ ?_;refine WP.block ?_;refine wr ?_;refine ue ?_;refine ue ?_;refine ua ?_;refine ua ?_;refine u_nil ?_;refine wr ?_;refine um ?_;refine um ?_;refine u_step (o_pcall (s175 _ (by omega) (by have:=dec_bd ⟨s.toArray⟩ i;omega)) rfl ?_);refine ub ?_;refine u_nil ?_;refine wc (fun hc35=>?_) (fun hc35=>?_) <;> try simp only [Q0,Q1,Q2,Q3,Q4,Q5,Q6,Q7,Q8,ge_iff_le,gt_iff_lt] at hc35
      ·
       refine wr ?_;refine um ?_;refine ua ?_;refine u_nil ?_;refine WP.ret ?_;refine ret_ok rfl ?_ (by omega) (fun t ht=>(hk30 t (by omega)).trans ((hfr t (by omega))));refine congrArg (D.int .i64) ?_;exact (firstI_at (p:=badC) (xs:=s) (i:=i) (by omega) (by rw [← hd4];exact decide_eq_true hc35) hin).symm
      ·
       refine WP.skip ?_;refine ⟨⟨i+_,o30⟩,⟨by omega,hb30,(fun t ht=>(hk30 t (by omega)).trans ((hfr t (by omega)))),?_⟩,by simp only;omega,?_⟩
       ·intro j hj h1;rcases Nat.lt_trichotomy j i with h2 | h2 | h2
        ·exact hin j hj h2
        ·subst h2;rw [← hd4];exact decide_eq_false hc35
        ·exact hd3 j hj h2 h1
       ·refine Le.al ?_;simp only [List.forall_mem_cons];exact ⟨rfl,rfl,rfl,by simp⟩
     ·
      refine ue ?_;refine u_nil ?_;refine WP.seq fun K37 hK37=>?_;refine WP.cond rfl (fun hc38=>by cases hc38) (fun hc38=>?_);refine WP.exit ?_;refine hK26 _ ?_;refine wr ?_;refine ua ?_;refine u_nil ?_;refine WP.ret ?_;refine ret_ok rfl ?_ (by omega) (fun t ht=>(hfr t (by omega)));refine congrArg (D.int .i64) ?_;exact (firstI_none (p:=badC) (xs:=s) fun j hj=>hin j hj (by omega)).symm
    ·
     exact ⟨by omega,hb28,(fun t ht=>(hk28 t (by omega))),by simp⟩
    ·
     refine Le.al ?_;simp only [List.forall_mem_cons];exact ⟨rfl,rfl,rfl,by simp⟩
theorem fn103:FnOk Tryz.prog 103 9 [4] (bodyOf Tryz.f103):=⟨Tryz.f103,Tryz.func103,by kernel_rfl,by decide,by kernel_rfl,by kernel_rfl⟩
theorem s103 (s:Str):PSpec Tryz.prog 103 [.d (.str s),.d (.str [36,0])] (.d (.bool (s.any badC))):=by
 refine PSpec.of fn103 (by simp) fun o nk=>?_;refine wr ?_;refine ua ?_;refine u_nil ?_;refine wr ?_;refine um ?_;refine um ?_;refine u_step (o_pcall (s150 s) rfl ?_);refine ub ?_;refine ua ?_;refine u_nil ?_;refine WP.ret ?_;refine ret_ok rfl ?_ (by omega) (fun _ _=>rfl);rw [← firstI_nn];rfl
theorem fn48:FnOk Tryz.prog 48 16 [2] (bodyOf Tryz.f48):=⟨Tryz.f48,Tryz.func48,by kernel_rfl,by decide,by kernel_rfl,by kernel_rfl⟩
theorem s48 (s:Str):PSpec Tryz.prog 48 [.d (.str s)] (.d (.bool (collV s))):=by
 refine PSpec.of fn48 (by simp) fun o nk=>?_;refine wr ?_;refine ua ?_;refine u_nil ?_;refine wr ?_;refine um ?_;refine u_step (o_len_str rfl th9 rfl ?_);refine ub ?_;refine um ?_;apply gT
 ·rfl
 ·intro hg;exact pm
 apply gT
 ·rfl
 ·intro hg;try simp only [hg,ct];try simp only [hg,ct,Bt]
  refine o_len_str rfl th9 rfl ⟨rfl,rfl,rfl⟩
 apply gT
 ·rfl
 ·intro hg;try simp only [hg,ct];try simp only [hg,ct,Bt]
  exact pb
 refine uA ?_;refine um ?_;apply gT
 ·rfl
 ·intro hg;exact pm
 apply gT
 ·rfl
 ·intro hg;try simp only [hg,ct];try simp only [hg,ct,Bt]
  refine o_pcall (s103 s) rfl ⟨rfl,rfl,rfl⟩
 apply gT
 ·rfl
 ·intro hg;try simp only [hg,ct];try simp only [hg,ct,Bt]
  exact pN
 refine uA ?_;refine ua ?_;refine u_nil ?_;refine WP.ret ?_;refine ret_ok rfl ?_ (by omega) (fun _ _=>rfl);refine congrArg D.bool ?_;rw [any_bad,Bool.eq_iff_iff];simp only [collV,Bool.and_eq_true,decide_eq_true_eq,Bool.not_eq_true',decide_eq_false_iff_not,not_or];constructor
 ·rintro ⟨⟨h1,h2⟩,h3,h4⟩;exact ⟨by omega,by omega,h3,h4⟩
 ·rintro ⟨h1,h2,h3,h4⟩;exact ⟨⟨by omega,by omega⟩,h3,h4⟩
end Go.Proofs.YtpkcbdhjnnnkbaaGreat.Abs

set_option linter.unusedVariables false
set_option linter.unusedSimpArgs false
set_option maxRecDepth 10000
namespace Go.Proofs.YtpkcbdhjnnnkbaaGreat.Abs
open Go
def hasC (k:Int):Bool:=decide (2≤k) && decide (k≤7)
def hasT (k:Int):Bool:=decide (k=7)
def hasI (k:Int):Bool:=decide (k=2) || decide (k=3) || decide (k=4)
def hasD (k:Int):Bool:=decide (k=2)
def hasS (k:Int):Bool:=decide (k=3)
theorem s64b (k:Int):PSpec Tryz.prog 64 [.d (.int .i64 k)] (.tup [.d (.bool (hasC k)),.d (.bool (hasT k)),.d (.bool (hasI k)),.d (.bool (hasD k)),.d (.bool (hasS k))]):=by
 have h:=s64 k;have e:(hasL k).map SV.d=[.d (.bool (hasC k)),.d (.bool (hasT k)),.d (.bool (hasI k)),.d (.bool (hasD k)),.d (.bool (hasS k))]:=by
  unfold hasL hasC hasT hasI hasD hasS;by_cases h2:k=2
  ·subst h2;rfl
  ·by_cases h3:k=3
   ·subst h3;rfl
   ·by_cases h4:k=4
    ·subst h4;rfl
    ·by_cases h5:k=5
     ·subst h5;rfl
     ·by_cases h6:k=6
      ·subst h6;rfl
      ·by_cases h7:k=7
       ·subst h7;rfl
       ·have:(decide (2≤k) && decide (k≤7))=false:=by simp;omega
        simp [h2,h3,h4,h5,h6,h7,this]
 rwa [e] at h
structure Bits (k:Int):Prop where
 t1:(bitsOf .and .i64 (fieldsV k) 2 != 0)=hasT k
 t0:(bitsOf .and .i64 (fieldsV k) 2 == 0)=!hasT k
 c1:(bitsOf .and .i64 (fieldsV k) 1 != 0)=hasC k
 c0:(bitsOf .and .i64 (fieldsV k) 1 == 0)=!hasC k
 i1:(bitsOf .and .i64 (fieldsV k) 4 != 0)=hasI k
 i0:(bitsOf .and .i64 (fieldsV k) 4 == 0)=!hasI k
 d1:(bitsOf .and .i64 (fieldsV k) 8 != 0)=hasD k
 d0:(bitsOf .and .i64 (fieldsV k) 8 == 0)=!hasD k
 s1:(bitsOf .and .i64 (fieldsV k) 16 != 0)=hasS k
 s0:(bitsOf .and .i64 (fieldsV k) 16 == 0)=!hasS k
theorem bits_of {k:Int} (h:1≤k∧k≤7):Bits k:=by
 obtain rfl | rfl | rfl | rfl | rfl | rfl | rfl:k=1∨k=2∨k=3∨k=4∨k=5∨k=6∨k=7:=by omega
 all_goals exact ⟨by decide,by decide,by decide,by decide,by decide,by decide,by decide,by decide,by decide,by decide⟩
theorem fields_ok (k:Int):decide (fieldsV k < 0)=!(decide (1≤k) && decide (k≤7)):=by
 by_cases h:1≤k∧k≤7
 ·obtain rfl | rfl | rfl | rfl | rfl | rfl | rfl:k=1∨k=2∨k=3∨k=4∨k=5∨k=6∨k=7:=by omega
  all_goals rfl
 ·have:fieldsV k=-1:=by
   unfold fieldsV;rw [if_neg (by omega),if_neg (by omega),if_neg (by omega),if_neg (by omega),if_neg (by omega),if_neg (by omega)]
  rw [this,Bool.eq_iff_iff];simp;omega
def namesE (e:Etr):Bool:=(if hasT e.kind=true then collV e.to && !decide (e.to=e.coll) else decide (e.to=[])) && (if hasC e.kind=true then collV e.coll else decide (e.coll=[]))
noncomputable def valuesE (e:Etr):Bool:=(hasI e.kind || noneV e.id) && (hasD e.kind || noneV e.doc) && (hasS e.kind || decide (e.deltas.length=0)) && (!hasI e.kind || decide (checkV e.id=0)) && (!hasD e.kind || mayDocV e.doc e.id) && (!hasS e.kind || mayDeltasV e.deltas)
noncomputable def mayE (e:Etr):Bool:=(decide (1≤e.kind) && decide (e.kind≤7)) && (decide (0≤e.term) && decide (e.term≤1099511627776)) && (decide (0≤e.session) && decide (e.session≤255)) && (decide (0≤e.number) && decide (e.number≤1099511627776)) && (!decide (e.kind=1) || decide (e.session=0) && decide (e.number=0)) && namesE e && valuesE e
structure OkE (e:Etr):Prop where
 ri:rngV e.id
 si:szV e.id≤1099511627776
 rd:rngV e.doc
 sd:szV e.doc≤1099511627776
 ds:e.deltas.length≤64→∀ d∈e.deltas,okD d
theorem coll_nil:collV []=false:=by decide
theorem d_imp_i {k:Int} (h:hasD k=true):hasI k=true:=by
 unfold hasD at h;unfold hasI;simp at h;simp [h]
theorem pvE {P:Program} {f:FuncId} {v w:Val} {r:SV} (h:PSpec P f [.d (encV v),.d (encV w)] r):PSpec P f [.d (.agg (valCells v)),.d (.agg (valCells w))] r:=by
 rw [encV_eq,encV_eq] at h;exact h
theorem fn101:FnOk Tryz.prog 101 40 [4] (bodyOf Tryz.f101):=⟨Tryz.f101,Tryz.func101,by kernel_rfl,by decide,by kernel_rfl,by kernel_rfl⟩
theorem s101 (e:Etr) (hk:1≤e.kind∧e.kind≤7):PSpec Tryz.prog 101 [.d (encE e),.d (.int .i64 (fieldsV e.kind))] (.d (.bool (namesE e))):=by
 have hb:=bits_of hk;refine PSpec.of fn101 (by simp) fun o nk=>?_;refine wr ?_;refine u_step (g_box rfl fun o2 hb2 hk2=>?_);refine ua ?_;refine u_nil ?_;refine WP.seq fun K3 hK3=>?_;refine wr ?_;refine um ?_;refine ub ?_;refine ub ?_;refine um ?_;apply gT
 ·rfl
 ·intro hg;exact pf th30 th9 hb2
 apply gT
 ·rfl
 ·intro hg;try simp only [hg,ct];try simp only [hg,ct,Bt]
  exact pl th9 hb2
 apply gT
 ·rfl
 ·intro hg;try simp only [hg,ct];try simp only [hg,ct,Bt]
  refine o_pcall (s48 _) rfl ⟨rfl,rfl,rfl⟩
 apply gT
 ·rfl
 ·intro hg;try simp only [hg,ct];try simp only [hg,ct,Bt]
  exact pN
 apply gT
 ·rfl
 ·intro hg;try simp only [hg,ct];try simp only [hg,ct,Bt]
  exact pm
 apply u_guard
 ·exact GC.cf _ _
 ·intro hg;exact pf th30 th9 hb2
 apply u_guard
 ·exact GC.cf _ _
 ·intro hg;try simp only [hg,ct];try simp only [hg,ct,Bt]
  exact pl th9 hb2
 apply u_guard
 ·exact GC.cf _ _
 ·intro hg;exact pf th30 th9 hb2
 apply u_guard
 ·exact GC.cf _ _
 ·intro hg;try simp only [hg,ct];try simp only [hg,ct,Bt]
  exact pl th9 hb2
 apply u_guard
 ·exact GC.cf _ _
 ·intro hg;try simp only [hg,ct];try simp only [hg,ct,Bt]
  exact ps
 apply gT
 ·rfl
 ·intro hg;try simp only [hg,ct];try simp only [hg,ct,Bt]
  exact pO
 refine uA ?_;refine um ?_;apply gF
 ·rfl
 ·intro hg;exact pm
 apply gF
 ·rfl
 ·intro hg;try simp only [hg,ct];try simp only [hg,ct,Bt]
  exact pb
 apply gF
 ·rfl
 ·intro hg;try simp only [hg,ct];try simp only [hg,ct,Bt]
  exact pb
 apply gF
 ·rfl
 ·intro hg;try simp only [hg,ct];try simp only [hg,ct,Bt]
  exact pm
 apply u_guard
 ·exact GC.ct _ _
 ·intro hg;exact pf th30 th9 hb2
 apply u_guard
 ·exact GC.ct _ _
 ·intro hg;try simp only [hg,ct];try simp only [hg,ct,Bt]
  exact pl th9 hb2
 apply u_guard
 ·exact GC.ct _ _
 ·intro hg;try simp only [hg,ct];try simp only [hg,ct,Bt]
  refine o_bin_str rfl (show _=SV.d (.str []) from rfl) rfl ⟨rfl,rfl,rfl⟩
 apply gF
 ·rfl
 ·intro hg;try simp only [hg,ct];try simp only [hg,ct,Bt]
  exact pA
 refine uO ?_;refine u_nil ?_;refine wc (fun hc5=>?_) (fun hc5=>?_) <;> try simp only [Q0,Q1,Q2,Q3,Q4,Q5,Q6,Q7,Q8,ge_iff_le,gt_iff_lt] at hc5
 ·
  refine wr ?_;refine ua ?_;refine u_nil ?_;refine WP.ret ?_;refine ret_ok rfl ?_ (by omega) (fun t ht=>(hk2 t (by omega)));clear hK3;refine congrArg D.bool ?_
  try simp only [hb.t1,hb.t0,hb.c1,hb.c0,hb.i1,hb.i0,hb.d1,hb.d0,hb.s1,hb.s0] at hc5
  try simp only [hb.t1,hb.t0,hb.c1,hb.c0,hb.i1,hb.i0,hb.d1,hb.d0,hb.s1,hb.s0]
  simp only [namesE,List.length_map] at *
  grind
 ·
  refine WP.skip ?_;refine hK3 _ ?_;refine WP.seq fun K7 hK7=>?_;refine wr ?_;refine um ?_;refine ub ?_;refine ub ?_;refine u_nil ?_;refine wc (fun hc9=>?_) (fun hc9=>?_) <;> try simp only [Q0,Q1,Q2,Q3,Q4,Q5,Q6,Q7,Q8,ge_iff_le,gt_iff_lt] at hc9
  ·
   refine wr ?_;refine uf th30 th9 hb2 ?_;refine ul th9 hb2 ?_;refine u_step (o_pcall (s48 _) rfl ?_);refine ua ?_;refine u_nil ?_;refine WP.ret ?_;refine ret_ok rfl ?_ (by omega) (fun t ht=>(hk2 t (by omega)));clear hK3 hK7;refine congrArg D.bool ?_
   try simp only [hb.t1,hb.t0,hb.c1,hb.c0,hb.i1,hb.i0,hb.d1,hb.d0,hb.s1,hb.s0] at hc5 hc9
   try simp only [hb.t1,hb.t0,hb.c1,hb.c0,hb.i1,hb.i0,hb.d1,hb.d0,hb.s1,hb.s0]
   simp only [namesE,List.length_map] at *
   grind
  ·
   refine WP.skip ?_;refine hK7 _ ?_;refine wr ?_;refine uf th30 th9 hb2 ?_;refine ul th9 hb2 ?_;refine u_step (o_bin_str rfl (show _=SV.d (.str []) from rfl) rfl ?_);refine ua ?_;refine u_nil ?_;refine WP.ret ?_;refine ret_ok rfl ?_ (by omega) (fun t ht=>(hk2 t (by omega)));clear hK3 hK7;refine congrArg D.bool ?_
   try simp only [hb.t1,hb.t0,hb.c1,hb.c0,hb.i1,hb.i0,hb.d1,hb.d0,hb.s1,hb.s0] at hc5 hc9
   try simp only [hb.t1,hb.t0,hb.c1,hb.c0,hb.i1,hb.i0,hb.d1,hb.d0,hb.s1,hb.s0]
   simp only [namesE,List.length_map] at *
   grind
theorem fn102:FnOk Tryz.prog 102 63 [4] (bodyOf Tryz.f102):=⟨Tryz.f102,Tryz.func102,by kernel_rfl,by decide,by kernel_rfl,by kernel_rfl⟩
theorem s102 (e:Etr) (hk:1≤e.kind∧e.kind≤7) (ok:OkE e):PSpec Tryz.prog 102 [.d (encE e),.d (.int .i64 (fieldsV e.kind))] (.d (.bool (valuesE e))):=by
 have hb:=bits_of hk;refine PSpec.of fn102 (by simp) fun o nk=>?_;refine wr ?_;refine u_step (g_box rfl fun o2 hb2 hk2=>?_);refine ua ?_;refine u_nil ?_;refine WP.seq fun K3 hK3=>?_;refine WP.block ?_;refine WP.seq fun K4 hK4=>?_;refine wr ?_;refine um ?_;refine ub ?_;refine ub ?_;refine um ?_;apply gT
 ·rfl
 ·intro hg;exact pf th30 th27 hb2
 apply gT
 ·rfl
 ·intro hg;try simp only [hg,ct];try simp only [hg,ct,Bt]
  exact pg th27 hb2
 apply gT
 ·rfl
 ·intro hg;try simp only [hg,ct];try simp only [hg,ct,Bt]
  refine o_pcall (pv (v:=e.id) (s147 e.id ok.si)) rfl ⟨rfl,rfl,rfl⟩
 apply gT
 ·rfl
 ·intro hg;try simp only [hg,ct];try simp only [hg,ct,Bt]
  exact pN
 refine uA ?_;refine ua ?_;refine u_nil ?_;refine wc (fun hc6=>?_) (fun hc6=>?_) <;> try simp only [Q0,Q1,Q2,Q3,Q4,Q5,Q6,Q7,Q8,ge_iff_le,gt_iff_lt] at hc6
 ·
  refine WP.skip ?_;refine hK4 _ ?_;refine wc (fun hc7=>?_) (fun hc7=>?_) <;> try simp only [Q0,Q1,Q2,Q3,Q4,Q5,Q6,Q7,Q8,ge_iff_le,gt_iff_lt] at hc7
  ·
   refine wr ?_;refine ua ?_;refine u_nil ?_;refine WP.ret ?_;refine ret_ok rfl ?_ (by omega) (fun t ht=>(hk2 t (by omega)));clear hK3 hK4;refine congrArg D.bool ?_
   try simp only [hb.t1,hb.t0,hb.c1,hb.c0,hb.i1,hb.i0,hb.d1,hb.d0,hb.s1,hb.s0] at hc6 hc7
   try simp only [hb.t1,hb.t0,hb.c1,hb.c0,hb.i1,hb.i0,hb.d1,hb.d0,hb.s1,hb.s0]
   simp only [valuesE,List.length_map] at *
   grind
  ·
   refine wr ?_;refine um ?_;refine ub ?_;refine ub ?_;refine um ?_;apply gT
   ·rfl
   ·intro hg;exact pf th30 th27 hb2
   apply gT
   ·rfl
   ·intro hg;try simp only [hg,ct];try simp only [hg,ct,Bt]
    exact pg th27 hb2
   apply gT
   ·rfl
   ·intro hg;try simp only [hg,ct];try simp only [hg,ct,Bt]
    refine o_pcall (pv (v:=e.id) (s123 e.id ok.ri ok.si)) rfl ⟨rfl,rfl,rfl⟩
   apply gT
   ·rfl
   ·intro hg;try simp only [hg,ct];try simp only [hg,ct,Bt]
    exact pb
   refine uA ?_;refine ua ?_;refine u_nil ?_;refine wc (fun hc10=>?_) (fun hc10=>?_) <;> try simp only [Q0,Q1,Q2,Q3,Q4,Q5,Q6,Q7,Q8,ge_iff_le,gt_iff_lt] at hc10
   ·
    refine wr ?_;refine ua ?_;refine u_nil ?_;refine WP.ret ?_;refine ret_ok rfl ?_ (by omega) (fun t ht=>(hk2 t (by omega)));clear hK3 hK4;refine congrArg D.bool ?_
    try simp only [hb.t1,hb.t0,hb.c1,hb.c0,hb.i1,hb.i0,hb.d1,hb.d0,hb.s1,hb.s0] at hc6 hc7 hc10
    try simp only [hb.t1,hb.t0,hb.c1,hb.c0,hb.i1,hb.i0,hb.d1,hb.d0,hb.s1,hb.s0]
    simp only [valuesE,List.length_map] at *
    grind
   ·
    refine wr ?_;refine um ?_;refine ub ?_;refine ub ?_;refine um ?_;apply gT
    ·rfl
    ·intro hg;exact pf th30 th27 hb2
    apply gT
    ·rfl
    ·intro hg;try simp only [hg,ct];try simp only [hg,ct,Bt]
     exact pg th27 hb2
    apply gT
    ·rfl
    ·intro hg;exact pf th30 th27 hb2
    apply gT
    ·rfl
    ·intro hg;try simp only [hg,ct];try simp only [hg,ct,Bt]
     exact pg th27 hb2
    apply gT
    ·rfl
    ·intro hg;try simp only [hg,ct];try simp only [hg,ct,Bt]
     refine o_pcall (pvE (v:=e.doc) (w:=e.id) (s148 e.doc e.id ok.rd ok.sd (by simp only [hb.d1] at hg;have hi:=d_imp_i hg;have hq:=hc10;simp only [hb.i1,hi,Bool.true_and,bne_eq_false_iff_eq] at hq;exact check_may hq))) rfl ⟨rfl,rfl,rfl⟩
    apply gT
    ·rfl
    ·intro hg;try simp only [hg,ct];try simp only [hg,ct,Bt]
     exact pN
    refine uA ?_;refine ua ?_;refine u_nil ?_;refine wc (fun hc13=>?_) (fun hc13=>?_) <;> try simp only [Q0,Q1,Q2,Q3,Q4,Q5,Q6,Q7,Q8,ge_iff_le,gt_iff_lt] at hc13
    ·
     refine wr ?_;refine ua ?_;refine u_nil ?_;refine WP.ret ?_;refine ret_ok rfl ?_ (by omega) (fun t ht=>(hk2 t (by omega)));clear hK3 hK4;refine congrArg D.bool ?_
     try simp only [hb.t1,hb.t0,hb.c1,hb.c0,hb.i1,hb.i0,hb.d1,hb.d0,hb.s1,hb.s0] at hc6 hc7 hc10 hc13
     try simp only [hb.t1,hb.t0,hb.c1,hb.c0,hb.i1,hb.i0,hb.d1,hb.d0,hb.s1,hb.s0]
     simp only [valuesE,List.length_map] at *
     grind
    ·
     refine WP.skip ?_;refine hK3 _ ?_;refine wr ?_;refine um ?_;refine ub ?_;refine ub ?_;refine um ?_;apply gF
     ·rfl
     ·intro hg;exact pf th30 th28 hb2
     apply gF
     ·rfl
     ·intro hg;try simp only [hg,ct];try simp only [hg,ct,Bt]
      exact pl th28 hb2
     apply gF
     ·rfl
     ·intro hg;try simp only [hg,ct];try simp only [hg,ct,Bt]
      refine o_pcall (s149 e.deltas ok.ds) rfl ⟨rfl,rfl,rfl⟩
     refine uO ?_;refine ua ?_;refine u_nil ?_;refine WP.ret ?_;refine ret_ok rfl ?_ (by omega) (fun t ht=>(hk2 t (by omega)));clear hK3 hK4;refine congrArg D.bool ?_
     try simp only [hb.t1,hb.t0,hb.c1,hb.c0,hb.i1,hb.i0,hb.d1,hb.d0,hb.s1,hb.s0] at hc6 hc7 hc10 hc13
     try simp only [hb.t1,hb.t0,hb.c1,hb.c0,hb.i1,hb.i0,hb.d1,hb.d0,hb.s1,hb.s0]
     simp only [valuesE,List.length_map] at *
     grind
 ·
  refine wr ?_;refine um ?_;refine ub ?_;refine ub ?_;refine um ?_;apply gT
  ·rfl
  ·intro hg;exact pf th30 th27 hb2
  apply gT
  ·rfl
  ·intro hg;try simp only [hg,ct];try simp only [hg,ct,Bt]
   exact pg th27 hb2
  apply gT
  ·rfl
  ·intro hg;try simp only [hg,ct];try simp only [hg,ct,Bt]
   refine o_pcall (pv (v:=e.doc) (s147 e.doc ok.sd)) rfl ⟨rfl,rfl,rfl⟩
  apply gT
  ·rfl
  ·intro hg;try simp only [hg,ct];try simp only [hg,ct,Bt]
   exact pN
  refine uA ?_;refine ua ?_;refine u_nil ?_;refine wc (fun hc17=>?_) (fun hc17=>?_) <;> try simp only [Q0,Q1,Q2,Q3,Q4,Q5,Q6,Q7,Q8,ge_iff_le,gt_iff_lt] at hc17
  ·
   refine WP.skip ?_;refine hK4 _ ?_;refine wc (fun hc18=>?_) (fun hc18=>?_) <;> try simp only [Q0,Q1,Q2,Q3,Q4,Q5,Q6,Q7,Q8,ge_iff_le,gt_iff_lt] at hc18
   ·
    refine wr ?_;refine ua ?_;refine u_nil ?_;refine WP.ret ?_;refine ret_ok rfl ?_ (by omega) (fun t ht=>(hk2 t (by omega)));clear hK3 hK4;refine congrArg D.bool ?_
    try simp only [hb.t1,hb.t0,hb.c1,hb.c0,hb.i1,hb.i0,hb.d1,hb.d0,hb.s1,hb.s0] at hc6 hc17 hc18
    try simp only [hb.t1,hb.t0,hb.c1,hb.c0,hb.i1,hb.i0,hb.d1,hb.d0,hb.s1,hb.s0]
    simp only [valuesE,List.length_map] at *
    grind
   ·
    refine wr ?_;refine um ?_;refine ub ?_;refine ub ?_;refine um ?_;apply gT
    ·rfl
    ·intro hg;exact pf th30 th27 hb2
    apply gT
    ·rfl
    ·intro hg;try simp only [hg,ct];try simp only [hg,ct,Bt]
     exact pg th27 hb2
    apply gT
    ·rfl
    ·intro hg;try simp only [hg,ct];try simp only [hg,ct,Bt]
     refine o_pcall (pv (v:=e.id) (s123 e.id ok.ri ok.si)) rfl ⟨rfl,rfl,rfl⟩
    apply gT
    ·rfl
    ·intro hg;try simp only [hg,ct];try simp only [hg,ct,Bt]
     exact pb
    refine uA ?_;refine ua ?_;refine u_nil ?_;refine wc (fun hc21=>?_) (fun hc21=>?_) <;> try simp only [Q0,Q1,Q2,Q3,Q4,Q5,Q6,Q7,Q8,ge_iff_le,gt_iff_lt] at hc21
    ·
     refine wr ?_;refine ua ?_;refine u_nil ?_;refine WP.ret ?_;refine ret_ok rfl ?_ (by omega) (fun t ht=>(hk2 t (by omega)));clear hK3 hK4;refine congrArg D.bool ?_
     try simp only [hb.t1,hb.t0,hb.c1,hb.c0,hb.i1,hb.i0,hb.d1,hb.d0,hb.s1,hb.s0] at hc6 hc17 hc18 hc21
     try simp only [hb.t1,hb.t0,hb.c1,hb.c0,hb.i1,hb.i0,hb.d1,hb.d0,hb.s1,hb.s0]
     simp only [valuesE,List.length_map] at *
     grind
    ·
     refine wr ?_;refine um ?_;refine ub ?_;refine ub ?_;refine um ?_;apply gT
     ·rfl
     ·intro hg;exact pf th30 th27 hb2
     apply gT
     ·rfl
     ·intro hg;try simp only [hg,ct];try simp only [hg,ct,Bt]
      exact pg th27 hb2
     apply gT
     ·rfl
     ·intro hg;exact pf th30 th27 hb2
     apply gT
     ·rfl
     ·intro hg;try simp only [hg,ct];try simp only [hg,ct,Bt]
      exact pg th27 hb2
     apply gT
     ·rfl
     ·intro hg;try simp only [hg,ct];try simp only [hg,ct,Bt]
      refine o_pcall (pvE (v:=e.doc) (w:=e.id) (s148 e.doc e.id ok.rd ok.sd (by simp only [hb.d1] at hg;have hi:=d_imp_i hg;have hq:=hc21;simp only [hb.i1,hi,Bool.true_and,bne_eq_false_iff_eq] at hq;exact check_may hq))) rfl ⟨rfl,rfl,rfl⟩
     apply gT
     ·rfl
     ·intro hg;try simp only [hg,ct];try simp only [hg,ct,Bt]
      exact pN
     refine uA ?_;refine ua ?_;refine u_nil ?_;refine wc (fun hc24=>?_) (fun hc24=>?_) <;> try simp only [Q0,Q1,Q2,Q3,Q4,Q5,Q6,Q7,Q8,ge_iff_le,gt_iff_lt] at hc24
     ·
      refine wr ?_;refine ua ?_;refine u_nil ?_;refine WP.ret ?_;refine ret_ok rfl ?_ (by omega) (fun t ht=>(hk2 t (by omega)));clear hK3 hK4;refine congrArg D.bool ?_
      try simp only [hb.t1,hb.t0,hb.c1,hb.c0,hb.i1,hb.i0,hb.d1,hb.d0,hb.s1,hb.s0] at hc6 hc17 hc18 hc21 hc24
      try simp only [hb.t1,hb.t0,hb.c1,hb.c0,hb.i1,hb.i0,hb.d1,hb.d0,hb.s1,hb.s0]
      simp only [valuesE,List.length_map] at *
      grind
     ·
      refine WP.skip ?_;refine hK3 _ ?_;refine wr ?_;refine um ?_;refine ub ?_;refine ub ?_;refine um ?_;apply gF
      ·rfl
      ·intro hg;exact pf th30 th28 hb2
      apply gF
      ·rfl
      ·intro hg;try simp only [hg,ct];try simp only [hg,ct,Bt]
       exact pl th28 hb2
      apply gF
      ·rfl
      ·intro hg;try simp only [hg,ct];try simp only [hg,ct,Bt]
       refine o_pcall (s149 e.deltas ok.ds) rfl ⟨rfl,rfl,rfl⟩
      refine uO ?_;refine ua ?_;refine u_nil ?_;refine WP.ret ?_;refine ret_ok rfl ?_ (by omega) (fun t ht=>(hk2 t (by omega)));clear hK3 hK4;refine congrArg D.bool ?_
      try simp only [hb.t1,hb.t0,hb.c1,hb.c0,hb.i1,hb.i0,hb.d1,hb.d0,hb.s1,hb.s0] at hc6 hc17 hc18 hc21 hc24
      try simp only [hb.t1,hb.t0,hb.c1,hb.c0,hb.i1,hb.i0,hb.d1,hb.d0,hb.s1,hb.s0]
      simp only [valuesE,List.length_map] at *
      grind
  ·
   refine WP.reg tabOk rfl ?_;refine um ?_;refine ub ?_;refine ub ?_;refine um ?_;apply gT
   ·rfl
   ·intro hg;exact pf th30 th28 hb2
   apply gT
   ·rfl
   ·intro hg;try simp only [hg,ct];try simp only [hg,ct,Bt]
    exact pl th28 hb2
   apply gT
   ·rfl
   ·intro hg;try simp only [hg,ct];try simp only [hg,ct,Bt]
    exact pn th28
   apply gT
   ·rfl
   ·intro hg;try simp only [hg,ct];try simp only [hg,ct,Bt]
    exact pb
   refine uA ?_;refine ua ?_;refine u_nil ?_;refine hK4 _ ?_;refine wc (fun hc27=>?_) (fun hc27=>?_) <;> try simp only [Q0,Q1,Q2,Q3,Q4,Q5,Q6,Q7,Q8,ge_iff_le,gt_iff_lt] at hc27
   ·
    refine wr ?_;refine ua ?_;refine u_nil ?_;refine WP.ret ?_;refine ret_ok rfl ?_ (by omega) (fun t ht=>(hk2 t (by omega)));clear hK3 hK4;refine congrArg D.bool ?_
    try simp only [hb.t1,hb.t0,hb.c1,hb.c0,hb.i1,hb.i0,hb.d1,hb.d0,hb.s1,hb.s0] at hc6 hc17 hc27
    try simp only [hb.t1,hb.t0,hb.c1,hb.c0,hb.i1,hb.i0,hb.d1,hb.d0,hb.s1,hb.s0]
    simp only [valuesE,List.length_map] at *
    grind
   ·
    refine wr ?_;refine um ?_;refine ub ?_;refine ub ?_;refine um ?_;apply gT
    ·rfl
    ·intro hg;exact pf th30 th27 hb2
    apply gT
    ·rfl
    ·intro hg;try simp only [hg,ct];try simp only [hg,ct,Bt]
     exact pg th27 hb2
    apply gT
    ·rfl
    ·intro hg;try simp only [hg,ct];try simp only [hg,ct,Bt]
     refine o_pcall (pv (v:=e.id) (s123 e.id ok.ri ok.si)) rfl ⟨rfl,rfl,rfl⟩
    apply gT
    ·rfl
    ·intro hg;try simp only [hg,ct];try simp only [hg,ct,Bt]
     exact pb
    refine uA ?_;refine ua ?_;refine u_nil ?_;refine wc (fun hc30=>?_) (fun hc30=>?_) <;> try simp only [Q0,Q1,Q2,Q3,Q4,Q5,Q6,Q7,Q8,ge_iff_le,gt_iff_lt] at hc30
    ·
     refine wr ?_;refine ua ?_;refine u_nil ?_;refine WP.ret ?_;refine ret_ok rfl ?_ (by omega) (fun t ht=>(hk2 t (by omega)));clear hK3 hK4;refine congrArg D.bool ?_
     try simp only [hb.t1,hb.t0,hb.c1,hb.c0,hb.i1,hb.i0,hb.d1,hb.d0,hb.s1,hb.s0] at hc6 hc17 hc27 hc30
     try simp only [hb.t1,hb.t0,hb.c1,hb.c0,hb.i1,hb.i0,hb.d1,hb.d0,hb.s1,hb.s0]
     simp only [valuesE,List.length_map] at *
     grind
    ·
     refine wr ?_;refine um ?_;refine ub ?_;refine ub ?_;refine um ?_;apply gT
     ·rfl
     ·intro hg;exact pf th30 th27 hb2
     apply gT
     ·rfl
     ·intro hg;try simp only [hg,ct];try simp only [hg,ct,Bt]
      exact pg th27 hb2
     apply gT
     ·rfl
     ·intro hg;exact pf th30 th27 hb2
     apply gT
     ·rfl
     ·intro hg;try simp only [hg,ct];try simp only [hg,ct,Bt]
      exact pg th27 hb2
     apply gT
     ·rfl
     ·intro hg;try simp only [hg,ct];try simp only [hg,ct,Bt]
      refine o_pcall (pvE (v:=e.doc) (w:=e.id) (s148 e.doc e.id ok.rd ok.sd (by simp only [hb.d1] at hg;have hi:=d_imp_i hg;have hq:=hc30;simp only [hb.i1,hi,Bool.true_and,bne_eq_false_iff_eq] at hq;exact check_may hq))) rfl ⟨rfl,rfl,rfl⟩
     apply gT
     ·rfl
     ·intro hg;try simp only [hg,ct];try simp only [hg,ct,Bt]
      exact pN
     refine uA ?_;refine ua ?_;refine u_nil ?_;refine wc (fun hc33=>?_) (fun hc33=>?_) <;> try simp only [Q0,Q1,Q2,Q3,Q4,Q5,Q6,Q7,Q8,ge_iff_le,gt_iff_lt] at hc33
     ·
      refine wr ?_;refine ua ?_;refine u_nil ?_;refine WP.ret ?_;refine ret_ok rfl ?_ (by omega) (fun t ht=>(hk2 t (by omega)));clear hK3 hK4;refine congrArg D.bool ?_
      try simp only [hb.t1,hb.t0,hb.c1,hb.c0,hb.i1,hb.i0,hb.d1,hb.d0,hb.s1,hb.s0] at hc6 hc17 hc27 hc30 hc33
      try simp only [hb.t1,hb.t0,hb.c1,hb.c0,hb.i1,hb.i0,hb.d1,hb.d0,hb.s1,hb.s0]
      simp only [valuesE,List.length_map] at *
      grind
     ·
      refine WP.skip ?_;refine hK3 _ ?_;refine wr ?_;refine um ?_;refine ub ?_;refine ub ?_;refine um ?_;apply gF
      ·rfl
      ·intro hg;exact pf th30 th28 hb2
      apply gF
      ·rfl
      ·intro hg;try simp only [hg,ct];try simp only [hg,ct,Bt]
       exact pl th28 hb2
      apply gF
      ·rfl
      ·intro hg;try simp only [hg,ct];try simp only [hg,ct,Bt]
       refine o_pcall (s149 e.deltas ok.ds) rfl ⟨rfl,rfl,rfl⟩
      refine uO ?_;refine ua ?_;refine u_nil ?_;refine WP.ret ?_;refine ret_ok rfl ?_ (by omega) (fun t ht=>(hk2 t (by omega)));clear hK3 hK4;refine congrArg D.bool ?_
      try simp only [hb.t1,hb.t0,hb.c1,hb.c0,hb.i1,hb.i0,hb.d1,hb.d0,hb.s1,hb.s0] at hc6 hc17 hc27 hc30 hc33
      try simp only [hb.t1,hb.t0,hb.c1,hb.c0,hb.i1,hb.i0,hb.d1,hb.d0,hb.s1,hb.s0]
      simp only [valuesE,List.length_map] at *
      grind
end Go.Proofs.YtpkcbdhjnnnkbaaGreat.Abs

set_option linter.unusedVariables false
set_option linter.unusedSimpArgs false
set_option maxRecDepth 10000
namespace Go.Proofs.YtpkcbdhjnnnkbaaGreat.Abs
open Go
theorem may_split {e:Etr} {b:Bool} (h:fieldsV e.kind < 0→b=true):b=false→1≤e.kind∧e.kind≤7:=fun hb=>by
 have:=fields_ok e.kind;by_cases hf:fieldsV e.kind < 0
 ·rw [h hf] at hb;cases hb
 ·rw [decide_eq_false hf] at this;simpa using this.symm
theorem fn45:FnOk Tryz.prog 45 48 [2] (bodyOf Tryz.f45):=⟨Tryz.f45,Tryz.func45,by kernel_rfl,by decide,by kernel_rfl,by kernel_rfl⟩
theorem s45 (e:Etr) (ok:OkE e):PSpec Tryz.prog 45 [.d (encE e)] (.d (.bool (mayE e))):=by
 refine PSpec.of fn45 (by simp) fun o nk=>?_;refine wr ?_;refine u_step (g_box rfl fun o2 hb2 hk2=>?_);refine ua ?_;refine u_nil ?_;refine wr ?_;refine uf th30 th3 hb2 ?_;refine ul th3 hb2 ?_;refine u_step (o_pcall (s99 e.kind) rfl ?_);refine ua ?_;refine u_nil ?_;refine WP.seq fun K4 hK4=>?_;refine wr ?_;refine um ?_;refine ub ?_;refine um ?_;apply gF
 ·rfl
 ·intro hg;exact pf th30 th3 hb2
 apply gF
 ·rfl
 ·intro hg;try simp only [hg,ct];try simp only [hg,ct,Bt]
  exact pl th3 hb2
 apply gF
 ·rfl
 ·intro hg;try simp only [hg,ct];try simp only [hg,ct,Bt]
  refine o_pcall (s100 e.term _) rfl ⟨rfl,rfl,rfl⟩
 apply gF
 ·rfl
 ·intro hg;try simp only [hg,ct];try simp only [hg,ct,Bt]
  exact pN
 refine uO ?_;refine um ?_;apply gF
 ·rfl
 ·intro hg;exact pf th30 th3 hb2
 apply gF
 ·rfl
 ·intro hg;try simp only [hg,ct];try simp only [hg,ct,Bt]
  exact pl th3 hb2
 apply gF
 ·rfl
 ·intro hg;try simp only [hg,ct];try simp only [hg,ct,Bt]
  refine o_pcall (s100 e.session _) rfl ⟨rfl,rfl,rfl⟩
 apply gF
 ·rfl
 ·intro hg;try simp only [hg,ct];try simp only [hg,ct,Bt]
  exact pN
 refine uO ?_;refine um ?_;apply gF
 ·rfl
 ·intro hg;exact pf th30 th3 hb2
 apply gF
 ·rfl
 ·intro hg;try simp only [hg,ct];try simp only [hg,ct,Bt]
  exact pl th3 hb2
 apply gF
 ·rfl
 ·intro hg;try simp only [hg,ct];try simp only [hg,ct,Bt]
  refine o_pcall (s100 e.number _) rfl ⟨rfl,rfl,rfl⟩
 apply gF
 ·rfl
 ·intro hg;try simp only [hg,ct];try simp only [hg,ct,Bt]
  exact pN
 refine uO ?_;refine u_nil ?_;refine wc (fun hc6=>?_) (fun hc6=>?_) <;> try simp only [Q0,Q1,Q2,Q3,Q4,Q5,Q6,Q7,Q8,ge_iff_le,gt_iff_lt] at hc6
 ·
  refine wr ?_;refine ua ?_;refine u_nil ?_;refine WP.ret ?_;refine ret_ok rfl ?_ (by omega) (fun t ht=>(hk2 t (by omega)));clear hK4;refine congrArg D.bool ?_;have hfk:=fields_ok e.kind;simp only [decide_eq_true_eq,decide_eq_false_iff_not,mayE] at *
  grind
 ·
  have hk:=may_split (e:=e) (b:=_) (fun hf=>by simp [hf]) hc6;refine WP.skip ?_;refine hK4 _ ?_;refine WP.seq fun K8 hK8=>?_;refine wr ?_;refine uf th30 th3 hb2 ?_;refine ul th3 hb2 ?_;refine ub ?_;refine um ?_;apply gT
  ·rfl
  ·intro hg;exact pf th30 th3 hb2
  apply gT
  ·rfl
  ·intro hg;try simp only [hg,ct];try simp only [hg,ct,Bt]
   exact pl th3 hb2
  apply gT
  ·rfl
  ·intro hg;try simp only [hg,ct];try simp only [hg,ct,Bt]
   exact pb
  apply gT
  ·rfl
  ·intro hg;try simp only [hg,ct];try simp only [hg,ct,Bt]
   exact pm
  apply u_guard
  ·exact GC.cf _ _
  ·intro hg;exact pf th30 th3 hb2
  apply u_guard
  ·exact GC.cf _ _
  ·intro hg;try simp only [hg,ct];try simp only [hg,ct,Bt]
   exact pl th3 hb2
  apply u_guard
  ·exact GC.cf _ _
  ·intro hg;try simp only [hg,ct];try simp only [hg,ct,Bt]
   exact pb
  apply gT
  ·rfl
  ·intro hg;try simp only [hg,ct];try simp only [hg,ct,Bt]
   exact pO
  refine uA ?_;refine u_nil ?_;refine wc (fun hc10=>?_) (fun hc10=>?_) <;> try simp only [Q0,Q1,Q2,Q3,Q4,Q5,Q6,Q7,Q8,ge_iff_le,gt_iff_lt] at hc10
  ·
   refine wr ?_;refine ua ?_;refine u_nil ?_;refine WP.ret ?_;refine ret_ok rfl ?_ (by omega) (fun t ht=>(hk2 t (by omega)));clear hK4 hK8;refine congrArg D.bool ?_;have hfk:=fields_ok e.kind;simp only [decide_eq_true_eq,decide_eq_false_iff_not,mayE] at *
   grind
  ·
   refine WP.skip ?_;refine hK8 _ ?_;refine wr ?_;refine ug th30 hb2 ?_;refine um ?_;refine u_step (o_pcall (s101 e hk) rfl ?_);refine um ?_;apply gT
   ·rfl
   ·intro hg;exact pg th30 hb2
   apply gT
   ·rfl
   ·intro hg;exact pm
   apply gT
   ·rfl
   ·intro hg;try simp only [hg,ct];try simp only [hg,ct,Bt]
    refine o_pcall (s102 e hk ok) rfl ⟨rfl,rfl,rfl⟩
   refine uA ?_;refine ua ?_;refine u_nil ?_;refine WP.ret ?_;refine ret_ok rfl ?_ (by omega) (fun t ht=>(hk2 t (by omega)));clear hK4 hK8;refine congrArg D.bool ?_;have hfk:=fields_ok e.kind;simp only [decide_eq_true_eq,decide_eq_false_iff_not,mayE] at *
   grind
theorem fn24:FnOk Tryz.prog 24 160 [2] (bodyOf Tryz.f24):=⟨Tryz.f24,Tryz.func24,by kernel_rfl,by decide,by kernel_rfl,by kernel_rfl⟩
theorem s24 (e:Etr) (ok:OkE e):PSpec Tryz.prog 24 [.d (encE e)] (.d (.bool (mayE e))):=by
 refine PSpec.of fn24 (by simp) fun o nk=>?_;refine wr ?_;refine u_step (g_box rfl fun o2 hb2 hk2=>?_);refine ua ?_;refine u_nil ?_;refine WP.seq fun K3 hK3=>?_;refine wr ?_;refine uf th30 th3 hb2 ?_;refine ul th3 hb2 ?_;refine ub ?_;refine um ?_;apply gF
 ·rfl
 ·intro hg;exact pf th30 th3 hb2
 apply gF
 ·rfl
 ·intro hg;try simp only [hg,ct];try simp only [hg,ct,Bt]
  exact pl th3 hb2
 apply gF
 ·rfl
 ·intro hg;try simp only [hg,ct];try simp only [hg,ct,Bt]
  exact pb
 refine uO ?_;refine um ?_;apply gF
 ·rfl
 ·intro hg;exact pf th30 th3 hb2
 apply gF
 ·rfl
 ·intro hg;try simp only [hg,ct];try simp only [hg,ct,Bt]
  exact pl th3 hb2
 apply gF
 ·rfl
 ·intro hg;try simp only [hg,ct];try simp only [hg,ct,Bt]
  exact pb
 refine uO ?_;refine um ?_;apply gF
 ·rfl
 ·intro hg;exact pf th30 th3 hb2
 apply gF
 ·rfl
 ·intro hg;try simp only [hg,ct];try simp only [hg,ct,Bt]
  exact pl th3 hb2
 apply gF
 ·rfl
 ·intro hg;try simp only [hg,ct];try simp only [hg,ct,Bt]
  exact pb
 refine uO ?_;refine um ?_;apply gF
 ·rfl
 ·intro hg;exact pf th30 th3 hb2
 apply gF
 ·rfl
 ·intro hg;try simp only [hg,ct];try simp only [hg,ct,Bt]
  exact pl th3 hb2
 apply gF
 ·rfl
 ·intro hg;try simp only [hg,ct];try simp only [hg,ct,Bt]
  exact pb
 refine uO ?_;refine um ?_;apply gF
 ·rfl
 ·intro hg;exact pf th30 th3 hb2
 apply gF
 ·rfl
 ·intro hg;try simp only [hg,ct];try simp only [hg,ct,Bt]
  exact pl th3 hb2
 apply gF
 ·rfl
 ·intro hg;try simp only [hg,ct];try simp only [hg,ct,Bt]
  exact pb
 refine uO ?_;refine um ?_;apply gF
 ·rfl
 ·intro hg;exact pf th30 th3 hb2
 apply gF
 ·rfl
 ·intro hg;try simp only [hg,ct];try simp only [hg,ct,Bt]
  exact pl th3 hb2
 apply gF
 ·rfl
 ·intro hg;try simp only [hg,ct];try simp only [hg,ct,Bt]
  exact pb
 refine uO ?_;refine um ?_;apply gF
 ·rfl
 ·intro hg;exact pf th30 th3 hb2
 apply gF
 ·rfl
 ·intro hg;try simp only [hg,ct];try simp only [hg,ct,Bt]
  exact pl th3 hb2
 apply gF
 ·rfl
 ·intro hg;try simp only [hg,ct];try simp only [hg,ct,Bt]
  exact pb
 refine uO ?_;refine u_nil ?_;refine wc (fun hc5=>?_) (fun hc5=>?_) <;> try simp only [Q0,Q1,Q2,Q3,Q4,Q5,Q6,Q7,Q8,ge_iff_le,gt_iff_lt] at hc5
 ·
  refine wr ?_;refine ua ?_;refine u_nil ?_;refine WP.ret ?_;refine ret_ok rfl ?_ (by omega) (fun t ht=>(hk2 t (by omega)));clear hK3;refine congrArg D.bool ?_;have hcn:=coll_nil;have hdi:=@d_imp_i e.kind;have hl0:e.deltas.length=0↔e.deltas=[]:=List.length_eq_zero_iff;simp only [mayE,namesE,valuesE,List.length_map] at *
  grind
 ·
  refine WP.skip ?_;refine hK3 _ ?_;refine wr ?_;refine uf th30 th3 hb2 ?_;refine ul th3 hb2 ?_;refine u_step (o_pcall (s64b e.kind) rfl ?_);refine u_step (o_moveV (v:=.tup _) rfl ?_);refine ue ?_;refine ue ?_;refine ue ?_;refine ue ?_;refine ue ?_;refine ua ?_;refine ua ?_;refine ua ?_;refine ua ?_;refine ua ?_;refine u_nil ?_;refine WP.seq fun K8 hK8=>?_;refine wr ?_;refine um ?_;refine uf th30 th9 hb2 ?_;refine ul th9 hb2 ?_;refine u_step (o_bin_str rfl (show _=SV.d (.str []) from rfl) rfl ?_);refine u_step (o_bin_neb rfl rfl th4 rfl ?_);refine um ?_;apply gF
  ·rfl
  ·intro hg;exact pm
  apply gF
  ·rfl
  ·intro hg;try simp only [hg,ct];try simp only [hg,ct,Bt]
   exact pm
  apply u_guard
  ·exact GC.ct _ _
  ·intro hg;exact pf th30 th9 hb2
  apply u_guard
  ·exact GC.ct _ _
  ·intro hg;try simp only [hg,ct];try simp only [hg,ct,Bt]
   exact pl th9 hb2
  apply u_guard
  ·exact GC.ct _ _
  ·intro hg;try simp only [hg,ct];try simp only [hg,ct,Bt]
   refine o_pcall (s49 e.coll) rfl ⟨rfl,rfl,rfl⟩
  apply u_guard
  ·exact GC.ct _ _
  ·intro hg;try simp only [hg,ct];try simp only [hg,ct,Bt]
   exact pN
  apply gF
  ·rfl
  ·intro hg;try simp only [hg,ct];try simp only [hg,ct,Bt]
   exact pA
  refine uO ?_;refine um ?_;apply gF
  ·rfl
  ·intro hg;exact pm
  apply gF
  ·rfl
  ·intro hg;exact pf th30 th9 hb2
  apply gF
  ·rfl
  ·intro hg;try simp only [hg,ct];try simp only [hg,ct,Bt]
   exact pl th9 hb2
  apply gF
  ·rfl
  ·intro hg;try simp only [hg,ct];try simp only [hg,ct,Bt]
   refine o_bin_str rfl (show _=SV.d (.str []) from rfl) rfl ⟨rfl,rfl,rfl⟩
  apply gF
  ·rfl
  ·intro hg;try simp only [hg,ct];try simp only [hg,ct,Bt]
   refine o_bin_neb rfl rfl th4 rfl ⟨rfl,rfl,rfl⟩
  refine uO ?_;refine um ?_;apply gF
  ·rfl
  ·intro hg;exact pm
  apply gF
  ·rfl
  ·intro hg;try simp only [hg,ct];try simp only [hg,ct,Bt]
   exact pm
  apply u_guard
  ·exact GC.ct _ _
  ·intro hg;exact pf th30 th9 hb2
  apply u_guard
  ·exact GC.ct _ _
  ·intro hg;try simp only [hg,ct];try simp only [hg,ct,Bt]
   exact pl th9 hb2
  apply u_guard
  ·exact GC.ct _ _
  ·intro hg;try simp only [hg,ct];try simp only [hg,ct,Bt]
   refine o_pcall (s49 e.to) rfl ⟨rfl,rfl,rfl⟩
  apply u_guard
  ·exact GC.ct _ _
  ·intro hg;try simp only [hg,ct];try simp only [hg,ct,Bt]
   exact pN
  apply u_guard
  ·exact GC.ct _ _
  ·intro hg;try simp only [hg,ct];try simp only [hg,ct,Bt]
   exact pm
  apply u_guard
  ·exact GC.cf _ _
  ·intro hg;exact pf th30 th9 hb2
  apply u_guard
  ·exact GC.cf _ _
  ·intro hg;try simp only [hg,ct];try simp only [hg,ct,Bt]
   exact pl th9 hb2
  apply u_guard
  ·exact GC.cf _ _
  ·intro hg;exact pf th30 th9 hb2
  apply u_guard
  ·exact GC.cf _ _
  ·intro hg;try simp only [hg,ct];try simp only [hg,ct,Bt]
   exact pl th9 hb2
  apply u_guard
  ·exact GC.cf _ _
  ·intro hg;try simp only [hg,ct];try simp only [hg,ct,Bt]
   exact ps
  apply u_guard
  ·exact GC.ct _ _
  ·intro hg;try simp only [hg,ct];try simp only [hg,ct,Bt]
   exact pO
  apply gF
  ·rfl
  ·intro hg;try simp only [hg,ct];try simp only [hg,ct,Bt]
   exact pA
  refine uO ?_;refine u_nil ?_;refine wc (fun hc10=>?_) (fun hc10=>?_) <;> try simp only [Q0,Q1,Q2,Q3,Q4,Q5,Q6,Q7,Q8,ge_iff_le,gt_iff_lt] at hc10
  ·
   refine wr ?_;refine ua ?_;refine u_nil ?_;refine WP.ret ?_;refine ret_ok rfl ?_ (by omega) (fun t ht=>(hk2 t (by omega)));clear hK3 hK8;refine congrArg D.bool ?_;have hcn:=coll_nil;have hdi:=@d_imp_i e.kind;have hl0:e.deltas.length=0↔e.deltas=[]:=List.length_eq_zero_iff;simp only [mayE,namesE,valuesE,List.length_map] at *
   grind
  ·
   refine WP.skip ?_;refine hK8 _ ?_;refine WP.seq fun K12 hK12=>?_;refine wr ?_;refine um ?_;refine uN ?_;refine um ?_;apply gT
   ·rfl
   ·intro hg;exact pf th30 th27 hb2
   apply gT
   ·rfl
   ·intro hg;try simp only [hg,ct];try simp only [hg,ct,Bt]
    exact pg th27 hb2
   apply gT
   ·rfl
   ·intro hg;try simp only [hg,ct];try simp only [hg,ct,Bt]
    refine o_pcall (pv (v:=e.id) (s65 e.id)) rfl ⟨rfl,rfl,rfl⟩
   apply gT
   ·rfl
   ·intro hg;try simp only [hg,ct];try simp only [hg,ct,Bt]
    exact pN
   refine uA ?_;refine um ?_;apply gF
   ·rfl
   ·intro hg;exact pm
   apply gF
   ·rfl
   ·intro hg;try simp only [hg,ct];try simp only [hg,ct,Bt]
    exact pm
   apply u_guard
   ·exact GC.ct _ _
   ·intro hg;exact pf th30 th27 hb2
   apply u_guard
   ·exact GC.ct _ _
   ·intro hg;try simp only [hg,ct];try simp only [hg,ct,Bt]
    exact pg th27 hb2
   apply u_guard
   ·exact GC.ct _ _
   ·intro hg;try simp only [hg,ct];try simp only [hg,ct,Bt]
    refine o_pcall (pv (v:=e.id) (s66 e.id ok.ri ok.si)) rfl ⟨rfl,rfl,rfl⟩
   apply u_guard
   ·exact GC.ct _ _
   ·intro hg;try simp only [hg,ct];try simp only [hg,ct,Bt]
    exact pb
   apply gF
   ·rfl
   ·intro hg;try simp only [hg,ct];try simp only [hg,ct,Bt]
    exact pA
   refine uO ?_;refine u_nil ?_;refine wc (fun hc14=>?_) (fun hc14=>?_) <;> try simp only [Q0,Q1,Q2,Q3,Q4,Q5,Q6,Q7,Q8,ge_iff_le,gt_iff_lt] at hc14
   ·
    refine wr ?_;refine ua ?_;refine u_nil ?_;refine WP.ret ?_;refine ret_ok rfl ?_ (by omega) (fun t ht=>(hk2 t (by omega)));clear hK3 hK8 hK12;refine congrArg D.bool ?_;have hcn:=coll_nil;have hdi:=@d_imp_i e.kind;have hl0:e.deltas.length=0↔e.deltas=[]:=List.length_eq_zero_iff;simp only [mayE,namesE,valuesE,List.length_map] at *
    grind
   ·
    refine WP.skip ?_;refine hK12 _ ?_;refine WP.seq fun K16 hK16=>?_;refine wr ?_;refine um ?_;refine uN ?_;refine um ?_;apply gT
    ·rfl
    ·intro hg;exact pf th30 th27 hb2
    apply gT
    ·rfl
    ·intro hg;try simp only [hg,ct];try simp only [hg,ct,Bt]
     exact pg th27 hb2
    apply gT
    ·rfl
    ·intro hg;try simp only [hg,ct];try simp only [hg,ct,Bt]
     refine o_pcall (pv (v:=e.doc) (s65 e.doc)) rfl ⟨rfl,rfl,rfl⟩
    apply gT
    ·rfl
    ·intro hg;try simp only [hg,ct];try simp only [hg,ct,Bt]
     exact pN
    refine uA ?_;refine um ?_;apply gF
    ·rfl
    ·intro hg;exact pm
    apply gF
    ·rfl
    ·intro hg;try simp only [hg,ct];try simp only [hg,ct,Bt]
     exact pm
    apply u_guard
    ·exact GC.ct _ _
    ·intro hg;exact pf th30 th27 hb2
    apply u_guard
    ·exact GC.ct _ _
    ·intro hg;try simp only [hg,ct];try simp only [hg,ct,Bt]
     exact pg th27 hb2
    apply u_guard
    ·exact GC.ct _ _
    ·intro hg;exact pf th30 th27 hb2
    apply u_guard
    ·exact GC.ct _ _
    ·intro hg;try simp only [hg,ct];try simp only [hg,ct,Bt]
     exact pg th27 hb2
    apply u_guard
    ·exact GC.ct _ _
    ·intro hg;try simp only [hg,ct];try simp only [hg,ct,Bt]
     refine o_pcall (pvE (v:=e.doc) (w:=e.id) (s67 e.doc e.id ok.rd ok.sd)) rfl ⟨rfl,rfl,rfl⟩
    apply u_guard
    ·exact GC.ct _ _
    ·intro hg;try simp only [hg,ct];try simp only [hg,ct,Bt]
     exact pN
    apply gF
    ·rfl
    ·intro hg;try simp only [hg,ct];try simp only [hg,ct,Bt]
     exact pA
    refine uO ?_;refine um ?_;apply gF
    ·rfl
    ·intro hg;exact pm
    apply gF
    ·rfl
    ·intro hg;try simp only [hg,ct];try simp only [hg,ct,Bt]
     exact pN
    apply gF
    ·rfl
    ·intro hg;try simp only [hg,ct];try simp only [hg,ct,Bt]
     exact pm
    apply u_guard
    ·exact GC.ct _ _
    ·intro hg;exact pf th30 th28 hb2
    apply u_guard
    ·exact GC.ct _ _
    ·intro hg;try simp only [hg,ct];try simp only [hg,ct,Bt]
     exact pl th28 hb2
    apply u_guard
    ·exact GC.ct _ _
    ·intro hg;try simp only [hg,ct];try simp only [hg,ct,Bt]
     exact pn th28
    apply u_guard
    ·exact GC.ct _ _
    ·intro hg;try simp only [hg,ct];try simp only [hg,ct,Bt]
     exact pb
    apply gF
    ·rfl
    ·intro hg;try simp only [hg,ct];try simp only [hg,ct,Bt]
     exact pA
    refine uO ?_;refine um ?_;apply gF
    ·rfl
    ·intro hg;exact pm
    apply gF
    ·rfl
    ·intro hg;try simp only [hg,ct];try simp only [hg,ct,Bt]
     exact pm
    apply u_guard
    ·exact GC.ct _ _
    ·intro hg;exact pf th30 th28 hb2
    apply u_guard
    ·exact GC.ct _ _
    ·intro hg;try simp only [hg,ct];try simp only [hg,ct,Bt]
     exact pl th28 hb2
    apply u_guard
    ·exact GC.ct _ _
    ·intro hg;try simp only [hg,ct];try simp only [hg,ct,Bt]
     refine o_pcall (s68 e.deltas ok.ds) rfl ⟨rfl,rfl,rfl⟩
    apply u_guard
    ·exact GC.ct _ _
    ·intro hg;try simp only [hg,ct];try simp only [hg,ct,Bt]
     exact pN
    apply gF
    ·rfl
    ·intro hg;try simp only [hg,ct];try simp only [hg,ct,Bt]
     exact pA
    refine uO ?_;refine u_nil ?_;refine wc (fun hc18=>?_) (fun hc18=>?_) <;> try simp only [Q0,Q1,Q2,Q3,Q4,Q5,Q6,Q7,Q8,ge_iff_le,gt_iff_lt] at hc18
    ·
     refine wr ?_;refine ua ?_;refine u_nil ?_;refine WP.ret ?_;refine ret_ok rfl ?_ (by omega) (fun t ht=>(hk2 t (by omega)));clear hK3 hK8 hK12 hK16;refine congrArg D.bool ?_;have hcn:=coll_nil;have hdi:=@d_imp_i e.kind;have hl0:e.deltas.length=0↔e.deltas=[]:=List.length_eq_zero_iff;simp only [mayE,namesE,valuesE,List.length_map] at *
     grind
    ·
     refine WP.skip ?_;refine hK16 _ ?_;refine wr ?_;refine uf th30 th3 hb2 ?_;refine ul th3 hb2 ?_;refine ub ?_;refine um ?_;apply gF
     ·rfl
     ·intro hg;exact pf th30 th3 hb2
     apply gF
     ·rfl
     ·intro hg;try simp only [hg,ct];try simp only [hg,ct,Bt]
      exact pl th3 hb2
     apply gF
     ·rfl
     ·intro hg;try simp only [hg,ct];try simp only [hg,ct,Bt]
      exact pb
     apply gF
     ·rfl
     ·intro hg;try simp only [hg,ct];try simp only [hg,ct,Bt]
      exact pm
     apply u_guard
     ·exact GC.ct _ _
     ·intro hg;exact pf th30 th3 hb2
     apply u_guard
     ·exact GC.ct _ _
     ·intro hg;try simp only [hg,ct];try simp only [hg,ct,Bt]
      exact pl th3 hb2
     apply u_guard
     ·exact GC.ct _ _
     ·intro hg;try simp only [hg,ct];try simp only [hg,ct,Bt]
      exact pb
     apply gF
     ·rfl
     ·intro hg;try simp only [hg,ct];try simp only [hg,ct,Bt]
      exact pA
     refine uO ?_;refine ua ?_;refine u_nil ?_;refine WP.ret ?_;refine ret_ok rfl ?_ (by omega) (fun t ht=>(hk2 t (by omega)));clear hK3 hK8 hK12 hK16;refine congrArg D.bool ?_;have hcn:=coll_nil;have hdi:=@d_imp_i e.kind;have hl0:e.deltas.length=0↔e.deltas=[]:=List.length_eq_zero_iff;simp only [mayE,namesE,valuesE,List.length_map] at *
     grind
end Go.Proofs.YtpkcbdhjnnnkbaaGreat.Abs

set_option linter.unusedVariables false
set_option linter.unusedSimpArgs false
set_option maxRecDepth 10000
set_option maxHeartbeats 1000000
namespace Go.Proofs.YtpkcbdhjnnnkbaaGreat.Abs
open Go
def hsB (k:Int) (bit:Int):Bool:=decide (bitsOf .and .i64 (if fieldsV k < 0 then 0 else fieldsV k) bit≠0)
theorem hasL_eq (k:Int):hasL k=[.bool (hsB k 1),.bool (hsB k 2),.bool (hsB k 4),.bool (hsB k 8),.bool (hsB k 16)]:=by
 unfold hasL hsB fieldsV;by_cases h1:k=1
 ·subst h1;rfl
 by_cases h2:k=2
 ·subst h2;rfl
 by_cases h3:k=3
 ·subst h3;rfl
 by_cases h4:k=4
 ·subst h4;rfl
 by_cases h5:k=5
 ·subst h5;rfl
 by_cases h6:k=6
 ·subst h6;rfl
 by_cases h7:k=7
 ·subst h7;rfl
 simp only [h1,h2,h3,h4,h5,h6,h7,if_false,or_self];rfl
def optS {α:Type} (b:Bool) (z:α) (r:SB→α×SB) (s:SB):α×SB:=if b=true then r s else (z,s)
theorem optS_yes {α:Type} {b:Bool} {z:α} {r:SB→α×SB} {s:SB} (h:b=true):optS b z r s=r s:=if_pos h
theorem optS_no {α:Type} {b:Bool} {z:α} {r:SB→α×SB} {s:SB} (h:¬ b=true):optS b z r s=(z,s):=if_neg h
def V0:Val:=.mk 0 0 [] [] []
def eT (s:SB):=cntS s 1099511627776
def eK (s:SB):=rdByte (eT s).2
def eS (s:SB):=cntS (eK s).2 255
def eN (s:SB):=cntS (eS s).2 1099511627776
def eC (s:SB):=optS (hsB (eK s).1 1) [] (fun s=>txtS s 32) (eN s).2
def eO (s:SB):=optS (hsB (eK s).1 2) [] (fun s=>txtS s 32) (eC s).2
def eI (rv:SB→Val×SB) (s:SB):=optS (hsB (eK s).1 4) V0 rv (eO s).2
def eD (rv:SB→Val×SB) (s:SB):=optS (hsB (eK s).1 8) V0 rv (eI rv s).2
def eL (rv:SB→Val×SB) (rd:SB→List Dlt×SB) (s:SB):=optS (hsB (eK s).1 16) [] rd (eD rv s).2
def eAll (rv:SB→Val×SB) (rd:SB→List Dlt×SB) (s:SB):Etr:=⟨(eT s).1,(eK s).1,(eC s).1,(eO s).1,(eI rv s).1,(eD rv s).1,(eL rv rd s).1,(eS s).1,(eN s).1⟩
def E0:Etr:=⟨0,0,[],[],V0,V0,[],0,0⟩
noncomputable def rdEt (rv:SB→Val×SB) (rd:SB→List Dlt×SB) (s:SB):Etr×SB:=if (eL rv rd s).2.2=true∨¬ mayE (eAll rv rd s)=true then (E0,((eL rv rd s).2.1,true)) else (eAll rv rd s,(eL rv rd s).2)
theorem optS_q {α:Type} {x y:Bool} {z:α} {r r':SB→α×SB} {a b:SB} (hx:x=y) (h:SBq a b) (hr:∀ a b,SBq a b→(r a).1=(r' b).1∧SBq (r a).2 (r' b).2):(optS x z r a).1=(optS y z r' b).1∧SBq (optS x z r a).2 (optS y z r' b).2:=by
 subst hx;unfold optS;split
 ·exact hr a b h
 ·exact ⟨rfl,h⟩
theorem optS_le {α:Type} {x:Bool} {z:α} {r:SB→α×SB} {s:SB} (h:∀ s,(r s).2.1.length≤s.1.length):(optS x z r s).2.1.length≤s.1.length:=by
 unfold optS;split
 ·exact h s
 ·exact Nat.le_refl _
theorem eN_le (s:SB):(eN s).2.1.length≤s.1.length:=Nat.le_trans (cnt_le _ _) (Nat.le_trans (cnt_le _ _) (Nat.le_trans (byte_le _) (cnt_le _ _)))
theorem eC_le (s:SB):(eC s).2.1.length≤s.1.length:=Nat.le_trans (optS_le fun s=>txt_le s 32) (eN_le s)
theorem eO_le (s:SB):(eO s).2.1.length≤s.1.length:=Nat.le_trans (optS_le fun s=>txt_le s 32) (eC_le s)
theorem eI_le {rv:SB→Val×SB} (hv:∀ s,(rv s).2.1.length≤s.1.length) (s:SB):(eI rv s).2.1.length≤s.1.length:=Nat.le_trans (optS_le hv) (eO_le s)
theorem eD_le {rv:SB→Val×SB} (hv:∀ s,(rv s).2.1.length≤s.1.length) (s:SB):(eD rv s).2.1.length≤s.1.length:=Nat.le_trans (optS_le hv) (eI_le hv s)
theorem eL_le {rv:SB→Val×SB} {rd:SB→List Dlt×SB} (hv:∀ s,(rv s).2.1.length≤s.1.length) (hd:∀ s,(rd s).2.1.length≤s.1.length) (s:SB):(eL rv rd s).2.1.length≤s.1.length:=Nat.le_trans (optS_le hd) (eD_le hv s)
theorem e_q {a b:SB} (h:SBq a b):eAll rdAll rdDsP a=eAll rdAllR rdDsR b∧SBq (eL rdAll rdDsP a).2 (eL rdAllR rdDsR b).2:=by
 have ht:=cnt_q (m:=1099511627776) h;have hk:=byte_q ht.2;have hs:=cnt_q (m:=255) hk.2;have hn:=cnt_q (m:=1099511627776) hs.2;have hkk:(eK a).1=(eK b).1:=hk.1;have hc:=optS_q (z:=([]:Str)) (r:=fun s=>txtS s 32) (r':=fun s=>txtS s 32) (congrArg (fun k=>hsB k 1) hkk) hn.2 fun a b h=>txt_q h;have ho:=optS_q (z:=([]:Str)) (r:=fun s=>txtS s 32) (r':=fun s=>txtS s 32) (congrArg (fun k=>hsB k 2) hkk) hc.2 fun a b h=>txt_q h;have hi:=optS_q (z:=V0) (congrArg (fun k=>hsB k 4) hkk) ho.2 fun a b h=>all_q h;have hd:=optS_q (z:=V0) (congrArg (fun k=>hsB k 8) hkk) hi.2 fun a b h=>all_q h;have hl:=optS_q (z:=([]:List Dlt)) (congrArg (fun k=>hsB k 16) hkk) hd.2 fun a b h=>rdDs_q h;refine ⟨?_,hl.2⟩;unfold eAll;have h1:(eT a).1=(eT b).1:=ht.1;have h2:(eS a).1=(eS b).1:=hs.1;have h3:(eN a).1=(eN b).1:=hn.1;have h4:(eC a).1=(eC b).1:=hc.1;have h5:(eO a).1=(eO b).1:=ho.1;have h6:(eI rdAll a).1=(eI rdAllR b).1:=hi.1;have h7:(eD rdAll a).1=(eD rdAllR b).1:=hd.1;have h8:(eL rdAll rdDsP a).1=(eL rdAllR rdDsR b).1:=hl.1;rw [h1,h2,h3,h4,h5,h6,h7,h8,hkk]
theorem rdEt_q {a b:SB} (h:SBq a b):(rdEt rdAll rdDsP a).1=(rdEt rdAllR rdDsR b).1∧SBq (rdEt rdAll rdDsP a).2 (rdEt rdAllR rdDsR b).2:=by
 have hq:=e_q h;unfold rdEt;rw [hq.1,hq.2.1];split
 ·exact ⟨rfl,SBq.bad rfl rfl⟩
 ·exact ⟨rfl,hq.2⟩
theorem rdDl_ok (s:SB) (hx:s.1.length≤1048576):okD (rdDl s).1:=by
 unfold rdDl spoilD rdD3;simp only;have hl:=Nat.le_trans (rdTs_le (cntS (rdByte s).2 8).1.toNat (cntS (rdByte s).2 8).2 []) (Nat.le_trans (cnt_le _ _) (byte_le s));split
 ·exact ⟨rdAll_rng _,rdAll_sz _ (by omega)⟩
 ·split
  ·exact ⟨⟨by decide,trivial⟩,by simp [szV,szVs,szN]⟩
  ·exact ⟨⟨by decide,trivial⟩,by simp [szV,szVs,szN]⟩
theorem rdDls_ok:∀ (n:Nat) (s:SB) (ds:List Dlt),s.1.length≤1048576→(∀ d∈ds,okD d)→∀ d∈(rdDls n s ds).1,okD d
 | 0,s,ds,hx,h=>h
 | n+1,s,ds,hx,h=>by
  refine rdDls_ok n _ _ (Nat.le_trans (rdDl_le s) hx) ?_;split
  ·exact h
  ·intro d hd;rcases List.mem_append.1 hd with hd | hd
   ·exact h d hd
   ·rw [List.mem_singleton.1 hd];exact rdDl_ok s hx
theorem rdDsP_ok (s:SB) (hx:s.1.length≤1048576):∀ d∈(rdDsP s).1,okD d:=by
 have h:=rdDls_ok (cntS s 64).1.toNat (cntS s 64).2 [] (Nat.le_trans (cnt_le _ _) hx) (by simp);unfold rdDsP rdDq;simp only;split
 ·simp
 ·exact h
theorem okE_read (s:SB) (hx:s.1.length≤1048576):OkE (eAll rdAll rdDsP s):=by
 have l1:=eO_le s;have l2:=eI_le rdAll_le s;have l3:=eD_le rdAll_le s;refine ⟨?_,?_,?_,?_,fun _=>?_⟩
 ·show rngV (optS _ V0 rdAll _).1;unfold optS;split
  ·exact rdAll_rng _
  ·exact ⟨by decide,trivial⟩
 ·show szV (optS _ V0 rdAll _).1≤_;unfold optS;split
  ·exact rdAll_sz _ (by omega)
  ·simp [V0,szV,szVs,szN]
 ·show rngV (optS _ V0 rdAll _).1;unfold optS;split
  ·exact rdAll_rng _
  ·exact ⟨by decide,trivial⟩
 ·show szV (optS _ V0 rdAll _).1≤_;unfold optS;split
  ·exact rdAll_sz _ (by omega)
  ·simp [V0,szV,szVs,szN]
 ·show ∀ d∈(optS _ ([]:List Dlt) rdDsP _).1,okD d;unfold optS;split
  ·exact rdDsP_ok _ (by omega)
  ·simp
theorem okE_readR (s:SB) (hx:s.1.length≤1048576):OkE (eAll rdAllR rdDsR s):=by
 rw [← (e_q (SBq.refl s)).1];exact okE_read s hx
theorem leE0:D.le (.agg [.int .i64 0,.int .i64 0,.str [],.str [],.int .i64 0,.int .i64 0,.str [],.nil,.nil,.int .i64 0,.int .i64 0,.str [],.nil,.nil,.nil,.int .i64 0,.int .i64 0]) (encE E0):=by
 simp [encE,E0,V0,valCells,Val.kind,Val.int,Val.text,Val.items,Val.names,encVs,D.le,D.les]
theorem rdEt_no {rv:SB→Val×SB} {rd:SB→List Dlt×SB} {s:SB} (h:(eL rv rd s).2.2=true∨¬ mayE (eAll rv rd s)=true):rdEt rv rd s=(E0,((eL rv rd s).2.1,true)):=if_pos h
theorem rdEt_ok {rv:SB→Val×SB} {rd:SB→List Dlt×SB} {s:SB} (h:¬ ((eL rv rd s).2.2=true∨¬ mayE (eAll rv rd s)=true)):rdEt rv rd s=(eAll rv rd s,(eL rv rd s).2):=if_neg h
theorem fn54:FnOkC Tryz.prog 54 59 [.cell 2 30] (bodyOf Tryz.f54):=⟨Tryz.f54,Tryz.func54,by kernel_rfl,by decide,by kernel_rfl,by kernel_rfl⟩
theorem s54 (s:SB) (hx:s.1.length≤1048576):MSpec Tryz.prog 54 (fun k=>[.loc k 0]) (srcS s) (srcS (rdEt rdAll rdDsP s).2) (.d (encE (rdEt rdAll rdDsP s).1)):=by
 have l0:=eN_le s;have l1:=eC_le s;have l2:=eO_le s;have l3:=eI_le rdAll_le s;have l4:=eD_le rdAll_le s;have hok:=okE_read s hx;refine MSpec.ofC tabOk fn54 (fun _=>by simp) (fun _=>by first | exact srcS_lts _ _ | simp [SV.lts,SV.lt]) fun o nk k hkn hM=>?_;refine wr ?_;refine u_step (g_alloc th30 rfl fun o2 hb2 hk2=>?_);have hM_2:=(hk2 _ (by omega)).trans hM;refine u_nil ?_;refine wr ?_;refine u_step (o_moveV (v:=.loc _ _) rfl ?_);refine u_step (g_mcall (s92 s 1099511627776) hM_2 rfl fun o4 hb4 hk4=>?_);have hb2_4:=(hk4 _ (by omega)).trans hb2;refine u_step (o_moveV (v:=.loc _ _) rfl ?_);refine u_step (g_mcall (s106 (eT s).2) hb4 rfl fun o5 hb5 hk5=>?_);have hb2_5:=(hk5 _ (by omega)).trans hb2_4;refine u_step (o_moveV (v:=.loc _ _) rfl ?_);refine u_step (g_mcall (s92 (eK s).2 255) hb5 rfl fun o6 hb6 hk6=>?_);have hb2_6:=(hk6 _ (by omega)).trans hb2_5;refine u_step (o_moveV (v:=.loc _ _) rfl ?_);refine u_step (g_mcall (s92 (eS s).2 1099511627776) hb6 rfl fun o7 hb7 hk7=>?_);have hb2_7:=(hk7 _ (by omega)).trans hb2_6;refine u_step (o_bu rfl th30 rfl rfl ?_);refine u_step (g_alloc th30 rfl fun o8 hb8 hk8=>?_);have hb2_8:=(hk8 _ (by omega)).trans hb2_7;have hb7_8:=(hk8 _ (by omega)).trans hb7;refine u_step0 (g_sta rfl rfl th30 rfl hb8 (by first | (simp;done) | (simp [D.leaves,D.width,valCells];done) | decide) fun o9 hb9 hk9=>?_);have hb2_9:=(hk9 _ (by omega)).trans hb2_8;have hb7_9:=(hk9 _ (by omega)).trans hb7_8;refine u_nil ?_;refine WP.leB [.d (.int .i64 (eT s).1),.d (.int .i64 (eK s).1),.d (.str []),.d (.str []),.d (.int .i64 (V0).kind),.d (.int .i64 (V0).int),.d (.str (V0).text),.d (.sl 5 (encVs (V0).items)),.d (.sl 1 ((V0).names.map .str)),.d (.int .i64 (V0).kind),.d (.int .i64 (V0).int),.d (.str (V0).text),.d (.sl 5 (encVs (V0).items)),.d (.sl 1 ((V0).names.map .str)),.d (.sl 8 (([]:List Dlt).map encD)),.d (.int .i64 (eS s).1),.d (.int .i64 (eN s).1)] hb9 ⟨D.le_refl _,D.le_refl _,D.le_refl _,D.le_refl _,D.le_refl _,D.le_refl _,D.le_refl _,rfl,rfl,D.le_refl _,D.le_refl _,D.le_refl _,rfl,rfl,rfl,D.le_refl _,D.le_refl _,trivial⟩ fun oY hBY hkY=>?_;have hFY:∀ t,t < nk→oY t=o9 t:=fun t ht=>hkY t (by omega);have hMY:=(hFY k hkn).trans hb7_9;have hZY:=(hkY nk (by omega)).trans hb2_9;have hfr0:∀ t,t < nk∧t≠k→o9 t=o t:=(fun t ht=>(hk9 t (by omega)).trans ((hk8 t (by omega)).trans ((hk7 t (by omega)).trans ((hk6 t (by omega)).trans ((hk5 t (by omega)).trans ((hk4 t (by omega)).trans ((hk2 t (by omega)))))))));refine wr ?_;refine uf th30 th3 hBY ?_;refine ul th3 hBY ?_;refine u_step (o_pcall (s99 _) rfl ?_);refine u_step (o_mm (by decide) rfl ?_);refine ua ?_;refine u_nil ?_;refine WP.seqI (ι:=Nat→Option AO) (fun oA=>⟨al [(0,.loc k 0),(2,.loc nk 0),(3,.loc (nk+1) 0),(4,.d (.int .i64 (if fieldsV (eK s).1 < 0 then 0 else fieldsV (eK s).1)))],oA,((nk+1)+1)⟩) (fun oA=>oA k=some (.box (srcS (eC s).2))∧oA (nk+1)=some (.box [.d (.int .i64 (eT s).1),.d (.int .i64 (eK s).1),.d (.str (eC s).1),.d (.str []),.d (.int .i64 (V0).kind),.d (.int .i64 (V0).int),.d (.str (V0).text),.d (.sl 5 (encVs (V0).items)),.d (.sl 1 ((V0).names.map .str)),.d (.int .i64 (V0).kind),.d (.int .i64 (V0).int),.d (.str (V0).text),.d (.sl 5 (encVs (V0).items)),.d (.sl 1 ((V0).names.map .str)),.d (.sl 8 (([]:List Dlt).map encD)),.d (.int .i64 (eS s).1),.d (.int .i64 (eN s).1)])∧oA nk=some (.box [.d (.int .i64 0),.d (.int .i64 0),.d (.str []),.d (.str []),.d (.int .i64 0),.d (.int .i64 0),.d (.str []),.d (.nil),.d (.nil),.d (.int .i64 0),.d (.int .i64 0),.d (.str []),.d (.nil),.d (.nil),.d (.nil),.d (.int .i64 0),.d (.int .i64 0)])∧∀ t,t < nk∧t≠k→oA t=o t) ?_ (fun oA hA=>?_)
 ·
  refine wr ?_;refine um ?_;refine ub ?_;refine ub ?_;refine u_nil ?_;refine wc (fun hc12=>?_) (fun hc12=>?_) <;> try simp only [Q0,Q1,Q2,Q3,Q4,Q5,Q6,Q7,Q8,ge_iff_le,gt_iff_lt] at hc12
  ·
   have hb1:hsB (eK s).1 1=true:=by have hgo:=hc12;simpa [hsB] using hgo
   have he:eC s=txtS (eN s).2 32:=optS_yes hb1;refine WP.reg tabOk rfl ?_;refine u_step (o_moveV (v:=.loc _ _) rfl ?_);refine u_step (g_mcall (s107 (eN s).2 32 (by omega)) hMY rfl fun o13 hb13 hk13=>?_);have hBY_13:=(hk13 _ (by omega)).trans hBY;have hZY_13:=(hk13 _ (by omega)).trans hZY;refine uf th30 th9 hBY_13 ?_;refine u_step0 (g_st rfl rfl rfl th9 rfl hBY_13 (by first | (simp;done) | (simp [D.leaves,D.width];done) | decide) fun o14 hb14 hk14=>?_);have hZY_14:=(hk14 _ (by omega)).trans hZY_13;have hb13_14:=(hk14 _ (by omega)).trans hb13;refine u_nil ?_;refine ⟨o14,⟨by rw [he];exact hb13_14,by rw [he];exact hb14,hZY_14,(fun t ht=>(hk14 t (by omega)).trans ((hk13 t (by omega)).trans ((hFY t (by omega)).trans ((hfr0 t (by omega))))))⟩,Le.al ?_⟩;simp only [List.forall_mem_cons];exact ⟨rfl,rfl,rfl,rfl,by simp⟩
  ·
   have hb1:¬ hsB (eK s).1 1=true:=by have hgo:=hc12;simpa [hsB] using hgo
   have he:eC s=([],(eN s).2):=optS_no hb1;refine WP.skip ?_;refine ⟨oY,⟨by rw [he];exact hMY,by rw [he];exact hBY,hZY,(fun t ht=>(hFY t (by omega)).trans ((hfr0 t (by omega))))⟩,Le.al ?_⟩;simp only [List.forall_mem_cons];exact ⟨rfl,rfl,rfl,rfl,by simp⟩
 ·
  obtain ⟨hMoA,hBoA,hZoA,hfroA⟩:=hA;refine WP.seqI (ι:=Nat→Option AO) (fun oB=>⟨al [(0,.loc k 0),(2,.loc nk 0),(3,.loc (nk+1) 0),(4,.d (.int .i64 (if fieldsV (eK s).1 < 0 then 0 else fieldsV (eK s).1)))],oB,((nk+1)+1)⟩) (fun oB=>oB k=some (.box (srcS (eO s).2))∧oB (nk+1)=some (.box [.d (.int .i64 (eT s).1),.d (.int .i64 (eK s).1),.d (.str (eC s).1),.d (.str (eO s).1),.d (.int .i64 (V0).kind),.d (.int .i64 (V0).int),.d (.str (V0).text),.d (.sl 5 (encVs (V0).items)),.d (.sl 1 ((V0).names.map .str)),.d (.int .i64 (V0).kind),.d (.int .i64 (V0).int),.d (.str (V0).text),.d (.sl 5 (encVs (V0).items)),.d (.sl 1 ((V0).names.map .str)),.d (.sl 8 (([]:List Dlt).map encD)),.d (.int .i64 (eS s).1),.d (.int .i64 (eN s).1)])∧oB nk=some (.box [.d (.int .i64 0),.d (.int .i64 0),.d (.str []),.d (.str []),.d (.int .i64 0),.d (.int .i64 0),.d (.str []),.d (.nil),.d (.nil),.d (.int .i64 0),.d (.int .i64 0),.d (.str []),.d (.nil),.d (.nil),.d (.nil),.d (.int .i64 0),.d (.int .i64 0)])∧∀ t,t < nk∧t≠k→oB t=o t) ?_ (fun oB hA=>?_)
  ·
   refine wr ?_;refine um ?_;refine ub ?_;refine ub ?_;refine u_nil ?_;refine wc (fun hc16=>?_) (fun hc16=>?_) <;> try simp only [Q0,Q1,Q2,Q3,Q4,Q5,Q6,Q7,Q8,ge_iff_le,gt_iff_lt] at hc16
   ·
    have hb2:hsB (eK s).1 2=true:=by have hgo:=hc16;simpa [hsB] using hgo
    have he:eO s=txtS (eC s).2 32:=optS_yes hb2;refine WP.reg tabOk rfl ?_;refine u_step (o_moveV (v:=.loc _ _) rfl ?_);refine u_step (g_mcall (s107 (eC s).2 32 (by omega)) hMoA rfl fun o17 hb17 hk17=>?_);have hBoA_17:=(hk17 _ (by omega)).trans hBoA;have hZoA_17:=(hk17 _ (by omega)).trans hZoA;refine uf th30 th9 hBoA_17 ?_;refine u_step0 (g_st rfl rfl rfl th9 rfl hBoA_17 (by first | (simp;done) | (simp [D.leaves,D.width];done) | decide) fun o18 hb18 hk18=>?_);have hZoA_18:=(hk18 _ (by omega)).trans hZoA_17;have hb17_18:=(hk18 _ (by omega)).trans hb17;refine u_nil ?_;refine ⟨o18,⟨by rw [he];exact hb17_18,by rw [he];exact hb18,hZoA_18,(fun t ht=>(hk18 t (by omega)).trans ((hk17 t (by omega)).trans ((hfroA t (by omega)))))⟩,Le.al ?_⟩;simp only [List.forall_mem_cons];exact ⟨rfl,rfl,rfl,rfl,by simp⟩
   ·
    have hb2:¬ hsB (eK s).1 2=true:=by have hgo:=hc16;simpa [hsB] using hgo
    have he:eO s=([],(eC s).2):=optS_no hb2;refine WP.skip ?_;refine ⟨oA,⟨by rw [he];exact hMoA,by rw [he];exact hBoA,hZoA,(fun t ht=>(hfroA t (by omega)))⟩,Le.al ?_⟩;simp only [List.forall_mem_cons];exact ⟨rfl,rfl,rfl,rfl,by simp⟩
  ·
   obtain ⟨hMoB,hBoB,hZoB,hfroB⟩:=hA;refine WP.seqI (ι:=Nat→Option AO) (fun oC=>⟨al [(0,.loc k 0),(2,.loc nk 0),(3,.loc (nk+1) 0),(4,.d (.int .i64 (if fieldsV (eK s).1 < 0 then 0 else fieldsV (eK s).1)))],oC,((nk+1)+1)⟩) (fun oC=>oC k=some (.box (srcS (eI rdAll s).2))∧oC (nk+1)=some (.box [.d (.int .i64 (eT s).1),.d (.int .i64 (eK s).1),.d (.str (eC s).1),.d (.str (eO s).1),.d (.int .i64 ((eI rdAll s).1).kind),.d (.int .i64 ((eI rdAll s).1).int),.d (.str ((eI rdAll s).1).text),.d (.sl 5 (encVs ((eI rdAll s).1).items)),.d (.sl 1 (((eI rdAll s).1).names.map .str)),.d (.int .i64 (V0).kind),.d (.int .i64 (V0).int),.d (.str (V0).text),.d (.sl 5 (encVs (V0).items)),.d (.sl 1 ((V0).names.map .str)),.d (.sl 8 (([]:List Dlt).map encD)),.d (.int .i64 (eS s).1),.d (.int .i64 (eN s).1)])∧oC nk=some (.box [.d (.int .i64 0),.d (.int .i64 0),.d (.str []),.d (.str []),.d (.int .i64 0),.d (.int .i64 0),.d (.str []),.d (.nil),.d (.nil),.d (.int .i64 0),.d (.int .i64 0),.d (.str []),.d (.nil),.d (.nil),.d (.nil),.d (.int .i64 0),.d (.int .i64 0)])∧∀ t,t < nk∧t≠k→oC t=o t) ?_ (fun oC hA=>?_)
   ·
    refine wr ?_;refine um ?_;refine ub ?_;refine ub ?_;refine u_nil ?_;refine wc (fun hc20=>?_) (fun hc20=>?_) <;> try simp only [Q0,Q1,Q2,Q3,Q4,Q5,Q6,Q7,Q8,ge_iff_le,gt_iff_lt] at hc20
    ·
     have hb4:hsB (eK s).1 4=true:=by have hgo:=hc20;simpa [hsB] using hgo
     have he:eI rdAll s=rdAll (eO s).2:=optS_yes hb4;refine WP.reg tabOk rfl ?_;refine u_step (o_moveV (v:=.loc _ _) rfl ?_);refine u_step (g_mcall (s108 (eO s).2 (by omega)) hMoB rfl fun o21 hb21 hk21=>?_);have hBoB_21:=(hk21 _ (by omega)).trans hBoB;have hZoB_21:=(hk21 _ (by omega)).trans hZoB;refine uf th30 th27 hBoB_21 ?_;refine u_step0 (g_sta rfl (congrArg SV.d (encV_eq _)) th27 rfl hBoB_21 (by simp [valCells]) fun o22 hb22 hk22=>?_);have hZoB_22:=(hk22 _ (by omega)).trans hZoB_21;have hb21_22:=(hk22 _ (by omega)).trans hb21;refine u_nil ?_;refine ⟨o22,⟨by rw [he];exact hb21_22,by rw [he];exact hb22,hZoB_22,(fun t ht=>(hk22 t (by omega)).trans ((hk21 t (by omega)).trans ((hfroB t (by omega)))))⟩,Le.al ?_⟩;simp only [List.forall_mem_cons];exact ⟨rfl,rfl,rfl,rfl,by simp⟩
    ·
     have hb4:¬ hsB (eK s).1 4=true:=by have hgo:=hc20;simpa [hsB] using hgo
     have he:eI rdAll s=(V0,(eO s).2):=optS_no hb4;refine WP.skip ?_;refine ⟨oB,⟨by rw [he];exact hMoB,by rw [he];exact hBoB,hZoB,(fun t ht=>(hfroB t (by omega)))⟩,Le.al ?_⟩;simp only [List.forall_mem_cons];exact ⟨rfl,rfl,rfl,rfl,by simp⟩
   ·
    obtain ⟨hMoC,hBoC,hZoC,hfroC⟩:=hA;refine WP.seqI (ι:=Nat→Option AO) (fun oD=>⟨al [(0,.loc k 0),(2,.loc nk 0),(3,.loc (nk+1) 0),(4,.d (.int .i64 (if fieldsV (eK s).1 < 0 then 0 else fieldsV (eK s).1)))],oD,((nk+1)+1)⟩) (fun oD=>oD k=some (.box (srcS (eD rdAll s).2))∧oD (nk+1)=some (.box [.d (.int .i64 (eT s).1),.d (.int .i64 (eK s).1),.d (.str (eC s).1),.d (.str (eO s).1),.d (.int .i64 ((eI rdAll s).1).kind),.d (.int .i64 ((eI rdAll s).1).int),.d (.str ((eI rdAll s).1).text),.d (.sl 5 (encVs ((eI rdAll s).1).items)),.d (.sl 1 (((eI rdAll s).1).names.map .str)),.d (.int .i64 ((eD rdAll s).1).kind),.d (.int .i64 ((eD rdAll s).1).int),.d (.str ((eD rdAll s).1).text),.d (.sl 5 (encVs ((eD rdAll s).1).items)),.d (.sl 1 (((eD rdAll s).1).names.map .str)),.d (.sl 8 (([]:List Dlt).map encD)),.d (.int .i64 (eS s).1),.d (.int .i64 (eN s).1)])∧oD nk=some (.box [.d (.int .i64 0),.d (.int .i64 0),.d (.str []),.d (.str []),.d (.int .i64 0),.d (.int .i64 0),.d (.str []),.d (.nil),.d (.nil),.d (.int .i64 0),.d (.int .i64 0),.d (.str []),.d (.nil),.d (.nil),.d (.nil),.d (.int .i64 0),.d (.int .i64 0)])∧∀ t,t < nk∧t≠k→oD t=o t) ?_ (fun oD hA=>?_)
    ·
     refine wr ?_;refine um ?_;refine ub ?_;refine ub ?_;refine u_nil ?_;refine wc (fun hc24=>?_) (fun hc24=>?_) <;> try simp only [Q0,Q1,Q2,Q3,Q4,Q5,Q6,Q7,Q8,ge_iff_le,gt_iff_lt] at hc24
     ·
      have hb8:hsB (eK s).1 8=true:=by have hgo:=hc24;simpa [hsB] using hgo
      have he:eD rdAll s=rdAll (eI rdAll s).2:=optS_yes hb8;refine WP.reg tabOk rfl ?_;refine u_step (o_moveV (v:=.loc _ _) rfl ?_);refine u_step (g_mcall (s108 (eI rdAll s).2 (by omega)) hMoC rfl fun o25 hb25 hk25=>?_);have hBoC_25:=(hk25 _ (by omega)).trans hBoC;have hZoC_25:=(hk25 _ (by omega)).trans hZoC;refine uf th30 th27 hBoC_25 ?_;refine u_step0 (g_sta rfl (congrArg SV.d (encV_eq _)) th27 rfl hBoC_25 (by simp [valCells]) fun o26 hb26 hk26=>?_);have hZoC_26:=(hk26 _ (by omega)).trans hZoC_25;have hb25_26:=(hk26 _ (by omega)).trans hb25;refine u_nil ?_;refine ⟨o26,⟨by rw [he];exact hb25_26,by rw [he];exact hb26,hZoC_26,(fun t ht=>(hk26 t (by omega)).trans ((hk25 t (by omega)).trans ((hfroC t (by omega)))))⟩,Le.al ?_⟩;simp only [List.forall_mem_cons];exact ⟨rfl,rfl,rfl,rfl,by simp⟩
     ·
      have hb8:¬ hsB (eK s).1 8=true:=by have hgo:=hc24;simpa [hsB] using hgo
      have he:eD rdAll s=(V0,(eI rdAll s).2):=optS_no hb8;refine WP.skip ?_;refine ⟨oC,⟨by rw [he];exact hMoC,by rw [he];exact hBoC,hZoC,(fun t ht=>(hfroC t (by omega)))⟩,Le.al ?_⟩;simp only [List.forall_mem_cons];exact ⟨rfl,rfl,rfl,rfl,by simp⟩
    ·
     obtain ⟨hMoD,hBoD,hZoD,hfroD⟩:=hA;refine WP.seqI (ι:=Nat→Option AO) (fun oE=>⟨al [(0,.loc k 0),(2,.loc nk 0),(3,.loc (nk+1) 0),(4,.d (.int .i64 (if fieldsV (eK s).1 < 0 then 0 else fieldsV (eK s).1)))],oE,((nk+1)+1)⟩) (fun oE=>oE k=some (.box (srcS (eL rdAll rdDsP s).2))∧oE (nk+1)=some (.box [.d (.int .i64 (eT s).1),.d (.int .i64 (eK s).1),.d (.str (eC s).1),.d (.str (eO s).1),.d (.int .i64 ((eI rdAll s).1).kind),.d (.int .i64 ((eI rdAll s).1).int),.d (.str ((eI rdAll s).1).text),.d (.sl 5 (encVs ((eI rdAll s).1).items)),.d (.sl 1 (((eI rdAll s).1).names.map .str)),.d (.int .i64 ((eD rdAll s).1).kind),.d (.int .i64 ((eD rdAll s).1).int),.d (.str ((eD rdAll s).1).text),.d (.sl 5 (encVs ((eD rdAll s).1).items)),.d (.sl 1 (((eD rdAll s).1).names.map .str)),.d (.sl 8 (((eL rdAll rdDsP s).1:List Dlt).map encD)),.d (.int .i64 (eS s).1),.d (.int .i64 (eN s).1)])∧oE nk=some (.box [.d (.int .i64 0),.d (.int .i64 0),.d (.str []),.d (.str []),.d (.int .i64 0),.d (.int .i64 0),.d (.str []),.d (.nil),.d (.nil),.d (.int .i64 0),.d (.int .i64 0),.d (.str []),.d (.nil),.d (.nil),.d (.nil),.d (.int .i64 0),.d (.int .i64 0)])∧∀ t,t < nk∧t≠k→oE t=o t) ?_ (fun oE hA=>?_)
     ·
      refine wr ?_;refine um ?_;refine ub ?_;refine ub ?_;refine u_nil ?_;refine wc (fun hc28=>?_) (fun hc28=>?_) <;> try simp only [Q0,Q1,Q2,Q3,Q4,Q5,Q6,Q7,Q8,ge_iff_le,gt_iff_lt] at hc28
      ·
       have hb16:hsB (eK s).1 16=true:=by have hgo:=hc28;simpa [hsB] using hgo
       have he:eL rdAll rdDsP s=rdDsP (eD rdAll s).2:=optS_yes hb16;refine WP.reg tabOk rfl ?_;refine u_step (o_moveV (v:=.loc _ _) rfl ?_);refine u_step (g_mcall (s38 (eD rdAll s).2 (by omega)) hMoD rfl fun o29 hb29 hk29=>?_);have hBoD_29:=(hk29 _ (by omega)).trans hBoD;have hZoD_29:=(hk29 _ (by omega)).trans hZoD;refine uf th30 th28 hBoD_29 ?_;refine u_step0 (g_st rfl rfl rfl th28 rfl hBoD_29 (by first | (simp;done) | (simp [D.leaves,D.width];done) | decide) fun o30 hb30 hk30=>?_);have hZoD_30:=(hk30 _ (by omega)).trans hZoD_29;have hb29_30:=(hk30 _ (by omega)).trans hb29;refine u_nil ?_;refine ⟨o30,⟨by rw [he];exact hb29_30,by rw [he];exact hb30,hZoD_30,(fun t ht=>(hk30 t (by omega)).trans ((hk29 t (by omega)).trans ((hfroD t (by omega)))))⟩,Le.al ?_⟩;simp only [List.forall_mem_cons];exact ⟨rfl,rfl,rfl,rfl,by simp⟩
      ·
       have hb16:¬ hsB (eK s).1 16=true:=by have hgo:=hc28;simpa [hsB] using hgo
       have he:eL rdAll rdDsP s=([],(eD rdAll s).2):=optS_no hb16;refine WP.skip ?_;refine ⟨oD,⟨by rw [he];exact hMoD,by rw [he];exact hBoD,hZoD,(fun t ht=>(hfroD t (by omega)))⟩,Le.al ?_⟩;simp only [List.forall_mem_cons];exact ⟨rfl,rfl,rfl,rfl,by simp⟩
     ·
      obtain ⟨hMoE,hBoE,hZoE,hfroE⟩:=hA;refine WP.seq fun K31 hK31=>?_;refine wr ?_;refine u_step (o_moveV (v:=.loc _ _) rfl ?_);refine u_step (o_scall (s41 _ hMoE) rfl ?_);refine um ?_;apply gF
      ·rfl
      ·intro hg;exact pg th30 hBoE
      apply gF
      ·rfl
      ·intro hg;try simp only [hg,ct];try simp only [hg,ct,Bt]
       refine o_pcall (s45 _ hok) rfl ⟨rfl,rfl,rfl⟩
      apply gF
      ·rfl
      ·intro hg;try simp only [hg,ct];try simp only [hg,ct,Bt]
       exact pN
      refine uO ?_;refine u_nil ?_;refine wc (fun hc33=>?_) (fun hc33=>?_) <;> try simp only [Q0,Q1,Q2,Q3,Q4,Q5,Q6,Q7,Q8,ge_iff_le,gt_iff_lt] at hc33
      ·
       have hz:(eL rdAll rdDsP s).2.2=true∨¬ mayE (eAll rdAll rdDsP s)=true:=by have hgo:=hc33;simpa using hgo
       have hr:=rdEt_no hz;refine wr ?_;refine u_step (o_moveV (v:=.loc _ _) rfl ?_);refine u_step (g_mcall (s109 _) hMoE rfl fun o35 hb35 hk35=>?_);have hBoE_35:=(hk35 _ (by omega)).trans hBoE;have hZoE_35:=(hk35 _ (by omega)).trans hZoE;refine u_nil ?_;refine wr ?_;refine u_step (o_bu rfl th30 rfl rfl ?_);refine u_step0 (g_sta rfl rfl th30 rfl hZoE_35 (by first | (simp;done) | (simp [D.leaves,D.width,valCells];done) | decide) fun o37 hb37 hk37=>?_);have hBoE_37:=(hk37 _ (by omega)).trans hBoE_35;have hb35_37:=(hk37 _ (by omega)).trans hb35;refine u_nil ?_;refine WP.ret ?_;refine retCM_ok (resis_agg rfl th30 rfl hb37 rfl rfl rfl) ?_ (by omega) (by rw [hr];exact hb35_37) (fun t ht=>(hk37 t (by omega)).trans ((hk35 t (by omega)).trans ((hfroE t (by omega)))));rw [hr];exact leE0
      ·
       have hz:¬ ((eL rdAll rdDsP s).2.2=true∨¬ mayE (eAll rdAll rdDsP s)=true):=by have hgo:=hc33;simpa using hgo
       have hr:=rdEt_ok hz;refine WP.skip ?_;refine hK31 _ ?_;refine wr ?_;refine ug th30 hBoE ?_;refine u_step0 (g_sta rfl rfl th30 rfl hZoE (by first | (simp;done) | (simp [D.leaves,D.width,valCells];done) | decide) fun o39 hb39 hk39=>?_);have hMoE_39:=(hk39 _ (by omega)).trans hMoE;have hBoE_39:=(hk39 _ (by omega)).trans hBoE;refine u_nil ?_;refine WP.ret ?_;refine retCM_ok (resis_agg rfl th30 rfl hb39 rfl rfl rfl) ?_ (by omega) (by rw [hr];exact hMoE_39) (fun t ht=>(hk39 t (by omega)).trans ((hfroE t (by omega))));rw [hr];exact D.le_refl _
end Go.Proofs.YtpkcbdhjnnnkbaaGreat.Abs

set_option linter.unusedVariables false
set_option linter.unusedSimpArgs false
set_option maxRecDepth 10000
set_option maxHeartbeats 1000000
namespace Go.Proofs.YtpkcbdhjnnnkbaaGreat.Abs
open Go
theorem hasTup (k:Int):PSpec Tryz.prog 64 [.d (.int .i64 k)] (.tup [.d (.bool (hsB k 1)),.d (.bool (hsB k 2)),.d (.bool (hsB k 4)),.d (.bool (hsB k 8)),.d (.bool (hsB k 16))]):=by
 have h:=s64 k;rw [hasL_eq] at h;exact h
theorem fn55:FnOkC Tryz.prog 55 64 [.cell 2 30] (bodyOf Tryz.f55):=⟨Tryz.f55,Tryz.func55,by kernel_rfl,by decide,by kernel_rfl,by kernel_rfl⟩
theorem s55 (s:SB) (hx:s.1.length≤1048576):MSpec Tryz.prog 55 (fun k=>[.loc k 0]) (srcS s) (srcS (rdEt rdAllR rdDsR s).2) (.d (encE (rdEt rdAllR rdDsR s).1)):=by
 have l0:=eN_le s;have l1:=eC_le s;have l2:=eO_le s;have l3:=eI_le rdAllR_le s;have l4:=eD_le rdAllR_le s;have hok:=okE_readR s hx;refine MSpec.ofC tabOk fn55 (fun _=>by simp) (fun _=>by first | exact srcS_lts _ _ | simp [SV.lts,SV.lt]) fun o nk k hkn hM=>?_;refine wr ?_;refine u_step (g_alloc th30 rfl fun o2 hb2 hk2=>?_);have hM_2:=(hk2 _ (by omega)).trans hM;refine u_nil ?_;refine wr ?_;refine u_step (o_moveV (v:=.loc _ _) rfl ?_);refine u_step (g_mcall (s94 s 1099511627776) hM_2 rfl fun o4 hb4 hk4=>?_);have hb2_4:=(hk4 _ (by omega)).trans hb2;refine u_step (o_bu rfl th30 rfl rfl ?_);refine u_step (g_alloc th30 rfl fun o5 hb5 hk5=>?_);have hb2_5:=(hk5 _ (by omega)).trans hb2_4;have hb4_5:=(hk5 _ (by omega)).trans hb4;refine u_step0 (g_sta rfl rfl th30 rfl hb5 (by first | (simp;done) | (simp [D.leaves,D.width,valCells];done) | decide) fun o6 hb6 hk6=>?_);have hb2_6:=(hk6 _ (by omega)).trans hb2_5;have hb4_6:=(hk6 _ (by omega)).trans hb4_5;refine u_nil ?_;refine wr ?_;refine u_step (o_moveV (v:=.loc _ _) rfl ?_);refine u_step (g_mcall (s95 (eT s).2) hb4_6 rfl fun o8 hb8 hk8=>?_);have hb2_8:=(hk8 _ (by omega)).trans hb2_6;have hb6_8:=(hk8 _ (by omega)).trans hb6;refine uf th30 th3 hb6_8 ?_;refine u_step0 (g_st rfl rfl rfl th3 rfl hb6_8 (by first | (simp;done) | (simp [D.leaves,D.width];done) | decide) fun o9 hb9 hk9=>?_);have hb2_9:=(hk9 _ (by omega)).trans hb2_8;have hb8_9:=(hk9 _ (by omega)).trans hb8;refine u_nil ?_;refine wr ?_;refine u_step (o_moveV (v:=.loc _ _) rfl ?_);refine u_step (g_mcall (s94 (eK s).2 255) hb8_9 rfl fun o11 hb11 hk11=>?_);have hb2_11:=(hk11 _ (by omega)).trans hb2_9;have hb9_11:=(hk11 _ (by omega)).trans hb9;refine uf th30 th3 hb9_11 ?_;refine u_step0 (g_st rfl rfl rfl th3 rfl hb9_11 (by first | (simp;done) | (simp [D.leaves,D.width];done) | decide) fun o12 hb12 hk12=>?_);have hb2_12:=(hk12 _ (by omega)).trans hb2_11;have hb11_12:=(hk12 _ (by omega)).trans hb11;refine u_nil ?_;refine wr ?_;refine u_step (o_moveV (v:=.loc _ _) rfl ?_);refine u_step (g_mcall (s94 (eS s).2 1099511627776) hb11_12 rfl fun o14 hb14 hk14=>?_);have hb2_14:=(hk14 _ (by omega)).trans hb2_12;have hb12_14:=(hk14 _ (by omega)).trans hb12;refine uf th30 th3 hb12_14 ?_;refine u_step0 (g_st rfl rfl rfl th3 rfl hb12_14 (by first | (simp;done) | (simp [D.leaves,D.width];done) | decide) fun o15 hb15 hk15=>?_);have hb2_15:=(hk15 _ (by omega)).trans hb2_14;have hb14_15:=(hk15 _ (by omega)).trans hb14;refine u_nil ?_;refine WP.leB [.d (.int .i64 (eT s).1),.d (.int .i64 (eK s).1),.d (.str []),.d (.str []),.d (.int .i64 (V0).kind),.d (.int .i64 (V0).int),.d (.str (V0).text),.d (.sl 5 (encVs (V0).items)),.d (.sl 1 ((V0).names.map .str)),.d (.int .i64 (V0).kind),.d (.int .i64 (V0).int),.d (.str (V0).text),.d (.sl 5 (encVs (V0).items)),.d (.sl 1 ((V0).names.map .str)),.d (.sl 8 (([]:List Dlt).map encD)),.d (.int .i64 (eS s).1),.d (.int .i64 (eN s).1)] hb15 ⟨D.le_refl _,D.le_refl _,D.le_refl _,D.le_refl _,D.le_refl _,D.le_refl _,D.le_refl _,rfl,rfl,D.le_refl _,D.le_refl _,D.le_refl _,rfl,rfl,rfl,D.le_refl _,D.le_refl _,trivial⟩ fun oY hBY hkY=>?_;have hFY:∀ t,t < nk→oY t=o15 t:=fun t ht=>hkY t (by omega);have hMY:=(hFY k hkn).trans hb14_15;have hZY:=(hkY nk (by omega)).trans hb2_15;have hfr0:∀ t,t < nk∧t≠k→o15 t=o t:=(fun t ht=>(hk15 t (by omega)).trans ((hk14 t (by omega)).trans ((hk12 t (by omega)).trans ((hk11 t (by omega)).trans ((hk9 t (by omega)).trans ((hk8 t (by omega)).trans ((hk6 t (by omega)).trans ((hk5 t (by omega)).trans ((hk4 t (by omega)).trans ((hk2 t (by omega))))))))))));refine wr ?_;refine uf th30 th3 hBY ?_;refine ul th3 hBY ?_;refine u_step (o_pcall (hasTup (eK s).1) rfl ?_);refine u_step (o_moveV (v:=.tup _) rfl ?_);refine ue ?_;refine ue ?_;refine ue ?_;refine ue ?_;refine ue ?_;refine ua ?_;refine ua ?_;refine ua ?_;refine ua ?_;refine ua ?_;refine u_nil ?_;refine WP.seqI (ι:=Nat→Option AO) (fun oA=>⟨al [(0,.loc k 0),(2,.loc nk 0),(3,.loc (nk+1) 0),(4,.d (.bool (hsB (eK s).1 1))),(5,.d (.bool (hsB (eK s).1 2))),(6,.d (.bool (hsB (eK s).1 4))),(7,.d (.bool (hsB (eK s).1 8))),(8,.d (.bool (hsB (eK s).1 16)))],oA,((nk+1)+1)⟩) (fun oA=>oA k=some (.box (srcS (eC s).2))∧oA (nk+1)=some (.box [.d (.int .i64 (eT s).1),.d (.int .i64 (eK s).1),.d (.str (eC s).1),.d (.str []),.d (.int .i64 (V0).kind),.d (.int .i64 (V0).int),.d (.str (V0).text),.d (.sl 5 (encVs (V0).items)),.d (.sl 1 ((V0).names.map .str)),.d (.int .i64 (V0).kind),.d (.int .i64 (V0).int),.d (.str (V0).text),.d (.sl 5 (encVs (V0).items)),.d (.sl 1 ((V0).names.map .str)),.d (.sl 8 (([]:List Dlt).map encD)),.d (.int .i64 (eS s).1),.d (.int .i64 (eN s).1)])∧oA nk=some (.box [.d (.int .i64 0),.d (.int .i64 0),.d (.str []),.d (.str []),.d (.int .i64 0),.d (.int .i64 0),.d (.str []),.d (.nil),.d (.nil),.d (.int .i64 0),.d (.int .i64 0),.d (.str []),.d (.nil),.d (.nil),.d (.nil),.d (.int .i64 0),.d (.int .i64 0)])∧∀ t,t < nk∧t≠k→oA t=o t) ?_ (fun oA hA=>?_)
 ·
  refine wr ?_;refine um ?_;refine u_nil ?_;refine wc (fun hc18=>?_) (fun hc18=>?_) <;> try simp only [Q0,Q1,Q2,Q3,Q4,Q5,Q6,Q7,Q8,ge_iff_le,gt_iff_lt] at hc18
  ·
   have hb1:hsB (eK s).1 1=true:=by simpa using hc18
   have he:eC s=txtS (eN s).2 32:=optS_yes hb1;refine WP.reg tabOk rfl ?_;refine u_step (o_moveV (v:=.loc _ _) rfl ?_);refine u_step (g_mcall (s96 (eN s).2 32 (by omega)) hMY rfl fun o19 hb19 hk19=>?_);have hBY_19:=(hk19 _ (by omega)).trans hBY;have hZY_19:=(hk19 _ (by omega)).trans hZY;refine uf th30 th9 hBY_19 ?_;refine u_step0 (g_st rfl rfl rfl th9 rfl hBY_19 (by first | (simp;done) | (simp [D.leaves,D.width];done) | decide) fun o20 hb20 hk20=>?_);have hZY_20:=(hk20 _ (by omega)).trans hZY_19;have hb19_20:=(hk20 _ (by omega)).trans hb19;refine u_nil ?_;refine ⟨o20,⟨by rw [he];exact hb19_20,by rw [he];exact hb20,hZY_20,(fun t ht=>(hk20 t (by omega)).trans ((hk19 t (by omega)).trans ((hFY t (by omega)).trans ((hfr0 t (by omega))))))⟩,Le.al ?_⟩;simp only [List.forall_mem_cons];exact ⟨rfl,rfl,rfl,rfl,rfl,rfl,rfl,rfl,by simp⟩
  ·
   have hb1:¬ hsB (eK s).1 1=true:=by simpa using hc18
   have he:eC s=([],(eN s).2):=optS_no hb1;refine WP.skip ?_;refine ⟨oY,⟨by rw [he];exact hMY,by rw [he];exact hBY,hZY,(fun t ht=>(hFY t (by omega)).trans ((hfr0 t (by omega))))⟩,Le.al ?_⟩;simp only [List.forall_mem_cons];exact ⟨rfl,rfl,rfl,rfl,rfl,rfl,rfl,rfl,by simp⟩
 ·
  obtain ⟨hMoA,hBoA,hZoA,hfroA⟩:=hA;refine WP.seqI (ι:=Nat→Option AO) (fun oB=>⟨al [(0,.loc k 0),(2,.loc nk 0),(3,.loc (nk+1) 0),(4,.d (.bool (hsB (eK s).1 1))),(5,.d (.bool (hsB (eK s).1 2))),(6,.d (.bool (hsB (eK s).1 4))),(7,.d (.bool (hsB (eK s).1 8))),(8,.d (.bool (hsB (eK s).1 16)))],oB,((nk+1)+1)⟩) (fun oB=>oB k=some (.box (srcS (eO s).2))∧oB (nk+1)=some (.box [.d (.int .i64 (eT s).1),.d (.int .i64 (eK s).1),.d (.str (eC s).1),.d (.str (eO s).1),.d (.int .i64 (V0).kind),.d (.int .i64 (V0).int),.d (.str (V0).text),.d (.sl 5 (encVs (V0).items)),.d (.sl 1 ((V0).names.map .str)),.d (.int .i64 (V0).kind),.d (.int .i64 (V0).int),.d (.str (V0).text),.d (.sl 5 (encVs (V0).items)),.d (.sl 1 ((V0).names.map .str)),.d (.sl 8 (([]:List Dlt).map encD)),.d (.int .i64 (eS s).1),.d (.int .i64 (eN s).1)])∧oB nk=some (.box [.d (.int .i64 0),.d (.int .i64 0),.d (.str []),.d (.str []),.d (.int .i64 0),.d (.int .i64 0),.d (.str []),.d (.nil),.d (.nil),.d (.int .i64 0),.d (.int .i64 0),.d (.str []),.d (.nil),.d (.nil),.d (.nil),.d (.int .i64 0),.d (.int .i64 0)])∧∀ t,t < nk∧t≠k→oB t=o t) ?_ (fun oB hA=>?_)
  ·
   refine wr ?_;refine um ?_;refine u_nil ?_;refine wc (fun hc22=>?_) (fun hc22=>?_) <;> try simp only [Q0,Q1,Q2,Q3,Q4,Q5,Q6,Q7,Q8,ge_iff_le,gt_iff_lt] at hc22
   ·
    have hb2:hsB (eK s).1 2=true:=by simpa using hc22
    have he:eO s=txtS (eC s).2 32:=optS_yes hb2;refine WP.reg tabOk rfl ?_;refine u_step (o_moveV (v:=.loc _ _) rfl ?_);refine u_step (g_mcall (s96 (eC s).2 32 (by omega)) hMoA rfl fun o23 hb23 hk23=>?_);have hBoA_23:=(hk23 _ (by omega)).trans hBoA;have hZoA_23:=(hk23 _ (by omega)).trans hZoA;refine uf th30 th9 hBoA_23 ?_;refine u_step0 (g_st rfl rfl rfl th9 rfl hBoA_23 (by first | (simp;done) | (simp [D.leaves,D.width];done) | decide) fun o24 hb24 hk24=>?_);have hZoA_24:=(hk24 _ (by omega)).trans hZoA_23;have hb23_24:=(hk24 _ (by omega)).trans hb23;refine u_nil ?_;refine ⟨o24,⟨by rw [he];exact hb23_24,by rw [he];exact hb24,hZoA_24,(fun t ht=>(hk24 t (by omega)).trans ((hk23 t (by omega)).trans ((hfroA t (by omega)))))⟩,Le.al ?_⟩;simp only [List.forall_mem_cons];exact ⟨rfl,rfl,rfl,rfl,rfl,rfl,rfl,rfl,by simp⟩
   ·
    have hb2:¬ hsB (eK s).1 2=true:=by simpa using hc22
    have he:eO s=([],(eC s).2):=optS_no hb2;refine WP.skip ?_;refine ⟨oA,⟨by rw [he];exact hMoA,by rw [he];exact hBoA,hZoA,(fun t ht=>(hfroA t (by omega)))⟩,Le.al ?_⟩;simp only [List.forall_mem_cons];exact ⟨rfl,rfl,rfl,rfl,rfl,rfl,rfl,rfl,by simp⟩
  ·
   obtain ⟨hMoB,hBoB,hZoB,hfroB⟩:=hA;refine WP.seqI (ι:=Nat→Option AO) (fun oC=>⟨al [(0,.loc k 0),(2,.loc nk 0),(3,.loc (nk+1) 0),(4,.d (.bool (hsB (eK s).1 1))),(5,.d (.bool (hsB (eK s).1 2))),(6,.d (.bool (hsB (eK s).1 4))),(7,.d (.bool (hsB (eK s).1 8))),(8,.d (.bool (hsB (eK s).1 16)))],oC,((nk+1)+1)⟩) (fun oC=>oC k=some (.box (srcS (eI rdAllR s).2))∧oC (nk+1)=some (.box [.d (.int .i64 (eT s).1),.d (.int .i64 (eK s).1),.d (.str (eC s).1),.d (.str (eO s).1),.d (.int .i64 ((eI rdAllR s).1).kind),.d (.int .i64 ((eI rdAllR s).1).int),.d (.str ((eI rdAllR s).1).text),.d (.sl 5 (encVs ((eI rdAllR s).1).items)),.d (.sl 1 (((eI rdAllR s).1).names.map .str)),.d (.int .i64 (V0).kind),.d (.int .i64 (V0).int),.d (.str (V0).text),.d (.sl 5 (encVs (V0).items)),.d (.sl 1 ((V0).names.map .str)),.d (.sl 8 (([]:List Dlt).map encD)),.d (.int .i64 (eS s).1),.d (.int .i64 (eN s).1)])∧oC nk=some (.box [.d (.int .i64 0),.d (.int .i64 0),.d (.str []),.d (.str []),.d (.int .i64 0),.d (.int .i64 0),.d (.str []),.d (.nil),.d (.nil),.d (.int .i64 0),.d (.int .i64 0),.d (.str []),.d (.nil),.d (.nil),.d (.nil),.d (.int .i64 0),.d (.int .i64 0)])∧∀ t,t < nk∧t≠k→oC t=o t) ?_ (fun oC hA=>?_)
   ·
    refine wr ?_;refine um ?_;refine u_nil ?_;refine wc (fun hc26=>?_) (fun hc26=>?_) <;> try simp only [Q0,Q1,Q2,Q3,Q4,Q5,Q6,Q7,Q8,ge_iff_le,gt_iff_lt] at hc26
    ·
     have hb4:hsB (eK s).1 4=true:=by simpa using hc26
     have he:eI rdAllR s=rdAllR (eO s).2:=optS_yes hb4;refine WP.reg tabOk rfl ?_;refine u_step (o_moveV (v:=.loc _ _) rfl ?_);refine u_step (g_mcall (s97 (eO s).2 (by omega)) hMoB rfl fun o27 hb27 hk27=>?_);have hBoB_27:=(hk27 _ (by omega)).trans hBoB;have hZoB_27:=(hk27 _ (by omega)).trans hZoB;refine uf th30 th27 hBoB_27 ?_;refine u_step0 (g_sta rfl (congrArg SV.d (encV_eq _)) th27 rfl hBoB_27 (by simp [valCells]) fun o28 hb28 hk28=>?_);have hZoB_28:=(hk28 _ (by omega)).trans hZoB_27;have hb27_28:=(hk28 _ (by omega)).trans hb27;refine u_nil ?_;refine ⟨o28,⟨by rw [he];exact hb27_28,by rw [he];exact hb28,hZoB_28,(fun t ht=>(hk28 t (by omega)).trans ((hk27 t (by omega)).trans ((hfroB t (by omega)))))⟩,Le.al ?_⟩;simp only [List.forall_mem_cons];exact ⟨rfl,rfl,rfl,rfl,rfl,rfl,rfl,rfl,by simp⟩
    ·
     have hb4:¬ hsB (eK s).1 4=true:=by simpa using hc26
     have he:eI rdAllR s=(V0,(eO s).2):=optS_no hb4;refine WP.skip ?_;refine ⟨oB,⟨by rw [he];exact hMoB,by rw [he];exact hBoB,hZoB,(fun t ht=>(hfroB t (by omega)))⟩,Le.al ?_⟩;simp only [List.forall_mem_cons];exact ⟨rfl,rfl,rfl,rfl,rfl,rfl,rfl,rfl,by simp⟩
   ·
    obtain ⟨hMoC,hBoC,hZoC,hfroC⟩:=hA;refine WP.seqI (ι:=Nat→Option AO) (fun oD=>⟨al [(0,.loc k 0),(2,.loc nk 0),(3,.loc (nk+1) 0),(4,.d (.bool (hsB (eK s).1 1))),(5,.d (.bool (hsB (eK s).1 2))),(6,.d (.bool (hsB (eK s).1 4))),(7,.d (.bool (hsB (eK s).1 8))),(8,.d (.bool (hsB (eK s).1 16)))],oD,((nk+1)+1)⟩) (fun oD=>oD k=some (.box (srcS (eD rdAllR s).2))∧oD (nk+1)=some (.box [.d (.int .i64 (eT s).1),.d (.int .i64 (eK s).1),.d (.str (eC s).1),.d (.str (eO s).1),.d (.int .i64 ((eI rdAllR s).1).kind),.d (.int .i64 ((eI rdAllR s).1).int),.d (.str ((eI rdAllR s).1).text),.d (.sl 5 (encVs ((eI rdAllR s).1).items)),.d (.sl 1 (((eI rdAllR s).1).names.map .str)),.d (.int .i64 ((eD rdAllR s).1).kind),.d (.int .i64 ((eD rdAllR s).1).int),.d (.str ((eD rdAllR s).1).text),.d (.sl 5 (encVs ((eD rdAllR s).1).items)),.d (.sl 1 (((eD rdAllR s).1).names.map .str)),.d (.sl 8 (([]:List Dlt).map encD)),.d (.int .i64 (eS s).1),.d (.int .i64 (eN s).1)])∧oD nk=some (.box [.d (.int .i64 0),.d (.int .i64 0),.d (.str []),.d (.str []),.d (.int .i64 0),.d (.int .i64 0),.d (.str []),.d (.nil),.d (.nil),.d (.int .i64 0),.d (.int .i64 0),.d (.str []),.d (.nil),.d (.nil),.d (.nil),.d (.int .i64 0),.d (.int .i64 0)])∧∀ t,t < nk∧t≠k→oD t=o t) ?_ (fun oD hA=>?_)
    ·
     refine wr ?_;refine um ?_;refine u_nil ?_;refine wc (fun hc30=>?_) (fun hc30=>?_) <;> try simp only [Q0,Q1,Q2,Q3,Q4,Q5,Q6,Q7,Q8,ge_iff_le,gt_iff_lt] at hc30
     ·
      have hb8:hsB (eK s).1 8=true:=by simpa using hc30
      have he:eD rdAllR s=rdAllR (eI rdAllR s).2:=optS_yes hb8;refine WP.reg tabOk rfl ?_;refine u_step (o_moveV (v:=.loc _ _) rfl ?_);refine u_step (g_mcall (s97 (eI rdAllR s).2 (by omega)) hMoC rfl fun o31 hb31 hk31=>?_);have hBoC_31:=(hk31 _ (by omega)).trans hBoC;have hZoC_31:=(hk31 _ (by omega)).trans hZoC;refine uf th30 th27 hBoC_31 ?_;refine u_step0 (g_sta rfl (congrArg SV.d (encV_eq _)) th27 rfl hBoC_31 (by simp [valCells]) fun o32 hb32 hk32=>?_);have hZoC_32:=(hk32 _ (by omega)).trans hZoC_31;have hb31_32:=(hk32 _ (by omega)).trans hb31;refine u_nil ?_;refine ⟨o32,⟨by rw [he];exact hb31_32,by rw [he];exact hb32,hZoC_32,(fun t ht=>(hk32 t (by omega)).trans ((hk31 t (by omega)).trans ((hfroC t (by omega)))))⟩,Le.al ?_⟩;simp only [List.forall_mem_cons];exact ⟨rfl,rfl,rfl,rfl,rfl,rfl,rfl,rfl,by simp⟩
     ·
      have hb8:¬ hsB (eK s).1 8=true:=by simpa using hc30
      have he:eD rdAllR s=(V0,(eI rdAllR s).2):=optS_no hb8;refine WP.skip ?_;refine ⟨oC,⟨by rw [he];exact hMoC,by rw [he];exact hBoC,hZoC,(fun t ht=>(hfroC t (by omega)))⟩,Le.al ?_⟩;simp only [List.forall_mem_cons];exact ⟨rfl,rfl,rfl,rfl,rfl,rfl,rfl,rfl,by simp⟩
    ·
     obtain ⟨hMoD,hBoD,hZoD,hfroD⟩:=hA;refine WP.seqI (ι:=Nat→Option AO) (fun oE=>⟨al [(0,.loc k 0),(2,.loc nk 0),(3,.loc (nk+1) 0),(4,.d (.bool (hsB (eK s).1 1))),(5,.d (.bool (hsB (eK s).1 2))),(6,.d (.bool (hsB (eK s).1 4))),(7,.d (.bool (hsB (eK s).1 8))),(8,.d (.bool (hsB (eK s).1 16)))],oE,((nk+1)+1)⟩) (fun oE=>oE k=some (.box (srcS (eL rdAllR rdDsR s).2))∧oE (nk+1)=some (.box [.d (.int .i64 (eT s).1),.d (.int .i64 (eK s).1),.d (.str (eC s).1),.d (.str (eO s).1),.d (.int .i64 ((eI rdAllR s).1).kind),.d (.int .i64 ((eI rdAllR s).1).int),.d (.str ((eI rdAllR s).1).text),.d (.sl 5 (encVs ((eI rdAllR s).1).items)),.d (.sl 1 (((eI rdAllR s).1).names.map .str)),.d (.int .i64 ((eD rdAllR s).1).kind),.d (.int .i64 ((eD rdAllR s).1).int),.d (.str ((eD rdAllR s).1).text),.d (.sl 5 (encVs ((eD rdAllR s).1).items)),.d (.sl 1 (((eD rdAllR s).1).names.map .str)),.d (.sl 8 (((eL rdAllR rdDsR s).1:List Dlt).map encD)),.d (.int .i64 (eS s).1),.d (.int .i64 (eN s).1)])∧oE nk=some (.box [.d (.int .i64 0),.d (.int .i64 0),.d (.str []),.d (.str []),.d (.int .i64 0),.d (.int .i64 0),.d (.str []),.d (.nil),.d (.nil),.d (.int .i64 0),.d (.int .i64 0),.d (.str []),.d (.nil),.d (.nil),.d (.nil),.d (.int .i64 0),.d (.int .i64 0)])∧∀ t,t < nk∧t≠k→oE t=o t) ?_ (fun oE hA=>?_)
     ·
      refine wr ?_;refine um ?_;refine u_nil ?_;refine wc (fun hc34=>?_) (fun hc34=>?_) <;> try simp only [Q0,Q1,Q2,Q3,Q4,Q5,Q6,Q7,Q8,ge_iff_le,gt_iff_lt] at hc34
      ·
       have hb16:hsB (eK s).1 16=true:=by simpa using hc34
       have he:eL rdAllR rdDsR s=rdDsR (eD rdAllR s).2:=optS_yes hb16;refine WP.reg tabOk rfl ?_;refine u_step (o_moveV (v:=.loc _ _) rfl ?_);refine u_step (g_mcall (s40 (eD rdAllR s).2 (by omega)) hMoD rfl fun o35 hb35 hk35=>?_);have hBoD_35:=(hk35 _ (by omega)).trans hBoD;have hZoD_35:=(hk35 _ (by omega)).trans hZoD;refine uf th30 th28 hBoD_35 ?_;refine u_step0 (g_st rfl rfl rfl th28 rfl hBoD_35 (by first | (simp;done) | (simp [D.leaves,D.width];done) | decide) fun o36 hb36 hk36=>?_);have hZoD_36:=(hk36 _ (by omega)).trans hZoD_35;have hb35_36:=(hk36 _ (by omega)).trans hb35;refine u_nil ?_;refine ⟨o36,⟨by rw [he];exact hb35_36,by rw [he];exact hb36,hZoD_36,(fun t ht=>(hk36 t (by omega)).trans ((hk35 t (by omega)).trans ((hfroD t (by omega)))))⟩,Le.al ?_⟩;simp only [List.forall_mem_cons];exact ⟨rfl,rfl,rfl,rfl,rfl,rfl,rfl,rfl,by simp⟩
      ·
       have hb16:¬ hsB (eK s).1 16=true:=by simpa using hc34
       have he:eL rdAllR rdDsR s=([],(eD rdAllR s).2):=optS_no hb16;refine WP.skip ?_;refine ⟨oD,⟨by rw [he];exact hMoD,by rw [he];exact hBoD,hZoD,(fun t ht=>(hfroD t (by omega)))⟩,Le.al ?_⟩;simp only [List.forall_mem_cons];exact ⟨rfl,rfl,rfl,rfl,rfl,rfl,rfl,rfl,by simp⟩
     ·
      obtain ⟨hMoE,hBoE,hZoE,hfroE⟩:=hA;refine WP.seq fun K37 hK37=>?_;refine wr ?_;refine u_step (o_moveV (v:=.loc _ _) rfl ?_);refine u_step (o_nc rfl hMoE ?_);refine uf th63 th4 hMoE ?_;refine ul th4 hMoE ?_;refine um ?_;apply gF
      ·rfl
      ·intro hg;exact pg th30 hBoE
      apply gF
      ·rfl
      ·intro hg;try simp only [hg,ct];try simp only [hg,ct,Bt]
       refine o_pcall (s24 _ hok) rfl ⟨rfl,rfl,rfl⟩
      apply gF
      ·rfl
      ·intro hg;try simp only [hg,ct];try simp only [hg,ct,Bt]
       exact pN
      refine uO ?_;refine u_nil ?_;refine wc (fun hc39=>?_) (fun hc39=>?_) <;> try simp only [Q0,Q1,Q2,Q3,Q4,Q5,Q6,Q7,Q8,ge_iff_le,gt_iff_lt] at hc39
      ·
       have hz:(eL rdAllR rdDsR s).2.2=true∨¬ mayE (eAll rdAllR rdDsR s)=true:=by have hgo:=hc39;simpa using hgo
       have hr:=rdEt_no hz;refine wr ?_;refine u_step (o_moveV (v:=.loc _ _) rfl ?_);refine u_step (o_nc rfl hMoE ?_);refine uf th63 th4 hMoE ?_;refine u_step0 (g_st rfl rfl rfl th4 rfl hMoE (by first | (simp;done) | (simp [D.leaves,D.width];done) | decide) fun o41 hb41 hk41=>?_);have hBoE_41:=(hk41 _ (by omega)).trans hBoE;have hZoE_41:=(hk41 _ (by omega)).trans hZoE;refine u_nil ?_;refine wr ?_;refine u_step (o_bu rfl th30 rfl rfl ?_);refine u_step0 (g_sta rfl rfl th30 rfl hZoE_41 (by first | (simp;done) | (simp [D.leaves,D.width,valCells];done) | decide) fun o43 hb43 hk43=>?_);have hBoE_43:=(hk43 _ (by omega)).trans hBoE_41;have hb41_43:=(hk43 _ (by omega)).trans hb41;refine u_nil ?_;refine WP.ret ?_;refine retCM_ok (resis_agg rfl th30 rfl hb43 rfl rfl rfl) ?_ (by omega) (by rw [hr];exact hb41_43) (fun t ht=>(hk43 t (by omega)).trans ((hk41 t (by omega)).trans ((hfroE t (by omega)))));rw [hr];exact leE0
      ·
       have hz:¬ ((eL rdAllR rdDsR s).2.2=true∨¬ mayE (eAll rdAllR rdDsR s)=true):=by have hgo:=hc39;simpa using hgo
       have hr:=rdEt_ok hz;refine WP.skip ?_;refine hK37 _ ?_;refine wr ?_;refine ug th30 hBoE ?_;refine u_step0 (g_sta rfl rfl th30 rfl hZoE (by first | (simp;done) | (simp [D.leaves,D.width,valCells];done) | decide) fun o45 hb45 hk45=>?_);have hMoE_45:=(hk45 _ (by omega)).trans hMoE;have hBoE_45:=(hk45 _ (by omega)).trans hBoE;refine u_nil ?_;refine WP.ret ?_;refine retCM_ok (resis_agg rfl th30 rfl hb45 rfl rfl rfl) ?_ (by omega) (by rw [hr];exact hMoE_45) (fun t ht=>(hk45 t (by omega)).trans ((hfroE t (by omega))));rw [hr];exact D.le_refl _
end Go.Proofs.YtpkcbdhjnnnkbaaGreat.Abs
