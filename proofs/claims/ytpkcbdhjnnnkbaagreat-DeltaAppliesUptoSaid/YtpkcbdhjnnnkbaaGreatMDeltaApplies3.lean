/- Part 3 of the proof that DeltaApplies: called with any value and any changes that hold together at most 1048576 values and letters, the law answers true, and both read afterwards as they read before. -/
import Derived.Test.YtpkcbdhjnnnkbaaGreatMDeltaApplies2
import Derived.Laws.Externs
import Derived.Lib.Bytealg
import Derived.Laws.RangeAny
import Derived.Laws.RangeString
import Derived.LoopN
set_option linter.unusedSimpArgs false
set_option linter.unusedVariables false
set_option maxRecDepth 10000
namespace Go.Proofs.YtpkcbdhjnnnkbaaGreat.Abs
open Go
theorem fn58:FnOk Tryz.prog 58 24 [2] (bodyOf Tryz.f58):=⟨Tryz.f58,Tryz.func58,by kernel_rfl,by decide,by kernel_rfl,by kernel_rfl⟩
theorem s58 (ns:List Str):PSpec Tryz.prog 58 [.d (.sl 1 (ns.map .str))] (.d (.bool (pathV ns))):=by
 refine PSpec.bd fun hbd=>?_;have hx:ns.length≤9223372036854775807:=by simpa using hbd.1.1
 refine PSpec.of fn58 (by simp) fun o nk=>?_;refine wr (ua (u_nil (WP.seq fun K2 hK2=>?_)));refine wr (ua (u_nil (WP.block ?_)));refine WP.loopL (ι:=Nat) (fun i=>⟨al [(0,.d (.sl 1 (ns.map .str))),(3,.d (.int .i64 i))],o,nk⟩) (fun i=>i≤ns.length∧(ns.take i).all nameV=true) (fun i=>ns.length - i) (fun i hA=>?_) 0 ?_ ?_
 ·
  obtain ⟨hle_i,hin_i⟩:=hA;refine WP.seq fun K4 hK4=>?_;refine wr ?_;refine um ?_;refine um ?_;refine un th22 ?_;refine ub ?_;refine u_nil ?_;refine wc (fun hc6=>?_) (fun hc6=>?_) <;> try simp only [Q0,Q1,Q2,Q3,Q4,Q5,Q6,Q7,Q8,ge_iff_le,gt_iff_lt] at hc6
  ·
   refine WP.skip (hK4 _ (WP.seq fun K7 hK7=>?_));refine WP.block (wr (um (um ?_)))
   refine u_step (o_ia_map rfl rfl th22 rfl th9 rfl (by omega) ?_)
   refine uL th9 ?_;refine u_step (o_pcall (s113 _) rfl ?_);refine uN ?_;refine u_nil ?_;refine wc (fun hc9=>?_) (fun hc9=>?_) <;> try simp only [Q0,Q1,Q2,Q3,Q4,Q5,Q6,Q7,Q8,ge_iff_le,gt_iff_lt] at hc9
   ·
    refine wr (ua (u_nil (WP.ret ?_)));refine ret_ok rfl ?_ (by omega) (fun _ _=>rfl);have h1:=all_false (p:=nameV) (by omega:i < ns.length) hc9;simp [pathV,h1]
   ·
    refine WP.skip (hK7 _ (WP.reg tabOk rfl ?_));refine um (ub (ua (u_nil ?_)));refine ⟨i+1,⟨by omega,?_⟩,by omega,?_⟩
    ·rw [all_snoc (by omega),hin_i,hc9];rfl
    ·refine Le.al ?_;simp only [List.forall_mem_cons];exact ⟨rfl,cnt (by omega),by simp⟩
  ·
   refine WP.exit ?_;refine hK2 _ (wr (um (un th22 ?_)));refine ub (um ?_);apply gT
   ·rfl
   ·intro hg;exact pm
   apply gT
   ·rfl
   ·intro hg;try simp only [hg,ct,Bt]
    exact pn th22
   apply gT
   ·rfl
   ·intro hg;try simp only [hg,ct,Bt]
    exact pb
   refine uA (ua (u_nil (WP.ret ?_)));refine ret_ok rfl ?_ (by omega) (fun _ _=>rfl);have h1:=all_true hc6 hin_i;refine congrArg D.bool ?_;rw [Bool.eq_iff_iff];simp [pathV,h1];omega
 ·
  simp
 ·
  refine Le.al ?_;simp only [List.forall_mem_cons];exact ⟨rfl,rfl,by simp⟩
theorem fn134:FnOk Tryz.prog 134 25 [2] (bodyOf Tryz.f134):=⟨Tryz.f134,Tryz.func134,by kernel_rfl,by decide,by kernel_rfl,by kernel_rfl⟩
theorem s134 (ns:List Str):PSpec Tryz.prog 134 [.d (.sl 1 (ns.map .str))] (.d (.bool (twiceV ns))):=by
 refine PSpec.bd fun hbd=>?_;have hx:ns.length≤9223372036854775807:=by simpa using hbd.1.1
 refine PSpec.of fn134 (by simp) fun o nk=>?_;refine wr (ua (u_nil (WP.seq fun K2 hK2=>?_)));refine wr (ua (u_nil (WP.block ?_)));refine WP.loopL (ι:=Nat) (fun i=>⟨al [(0,.d (.sl 1 (ns.map .str))),(3,.d (.int .i64 i))],o,nk⟩) (fun i=>i≤ns.length∧∀ (a b:Nat) (ha:a < ns.length) (hb:b < ns.length),a < b→b < i→ns[a]≠ns[b]) (fun i=>ns.length - i) (fun i hA=>?_) 0 ?_ ?_
 ·
  obtain ⟨hle_i,hin_i⟩:=hA;refine WP.seq fun K4 hK4=>?_;refine wr ?_;refine um ?_;refine um ?_;refine un th22 ?_;refine ub ?_;refine u_nil ?_;refine wc (fun hc6=>?_) (fun hc6=>?_) <;> try simp only [Q0,Q1,Q2,Q3,Q4,Q5,Q6,Q7,Q8,ge_iff_le,gt_iff_lt] at hc6
  ·
   refine WP.skip (hK4 _ (WP.seq fun K7 hK7=>?_));refine WP.block (wr (ua (u_nil (WP.block ?_))));refine WP.loopL (ι:=Nat) (fun j=>⟨al [(0,.d (.sl 1 (ns.map .str))),(3,.d (.int .i64 i)),(4,.d (.int .i64 j))],o,nk⟩) (fun j=>j≤i∧∀ (a:Nat) (ha:a < ns.length),a < j→ns[i]≠ns[a]) (fun j=>i - j) (fun j hA=>?_) 0 ?_ ?_
   ·
    obtain ⟨hle_j,hin_j⟩:=hA;refine WP.seq fun K9 hK9=>?_;refine wr ?_;refine um ?_;refine um ?_;refine ub ?_;refine u_nil ?_;refine wc (fun hc11=>?_) (fun hc11=>?_) <;> try simp only [Q0,Q1,Q2,Q3,Q4,Q5,Q6,Q7,Q8,ge_iff_le,gt_iff_lt] at hc11
    ·
     refine WP.skip (hK9 _ (WP.seq fun K12 hK12=>?_));refine WP.block (wd ?_);refine dm ?_;refine dm ?_
     refine d_step (o_ia_map rfl rfl th22 rfl th9 rfl (by omega) ⟨rfl,rfl,rfl⟩) ?_
     refine dL th9 ?_;refine dm ?_;refine dm ?_
     refine d_step (o_ia_map rfl rfl th22 rfl th9 rfl (by omega) ⟨rfl,rfl,rfl⟩) ?_
     refine dL th9 ?_;refine ds ?_;refine d_nil ?_;refine wc (fun hc14=>?_) (fun hc14=>?_) <;> try simp only [Q0,Q1,Q2,Q3,Q4,Q5,Q6,Q7,Q8,ge_iff_le,gt_iff_lt] at hc14
     ·
      refine wr (ua (u_nil (WP.ret ?_)));refine ret_ok rfl ?_ (by omega) (fun _ _=>rfl);rw [twice_true (by omega) hc11 hc14]
     ·
      refine WP.skip (hK12 _ (WP.reg tabOk rfl ?_));refine um (ub (ua (u_nil ?_)));refine ⟨j+1,⟨by omega,?_⟩,by omega,?_⟩
      ·intro a ha h1;by_cases haj:a=j
       ·subst haj;exact hc14
       ·exact hin_j a ha (by omega)
      ·refine Le.al ?_;simp only [List.forall_mem_cons];exact ⟨rfl,rfl,cnt (by omega),by simp⟩
    ·
     refine WP.exit ?_;refine hK7 _ (WP.reg tabOk rfl ?_);refine um (ub (ua (u_nil ?_)));refine ⟨i+1,⟨by omega,?_⟩,by omega,?_⟩
     ·intro a b ha hb h1 h2;by_cases hbi:b=i
      ·subst hbi;exact fun e=>hin_j a ha (by omega) e.symm
      ·exact hin_i a b ha hb h1 (by omega)
     ·refine Le.al ?_;simp only [List.forall_mem_cons];exact ⟨rfl,cnt (by omega),by simp⟩
   ·
    simp
   ·
    refine Le.al ?_;simp only [List.forall_mem_cons];exact ⟨rfl,rfl,rfl,by simp⟩
  ·
   refine WP.exit ?_;refine hK2 _ (wr (ua (u_nil (WP.ret ?_))));refine ret_ok rfl ?_ (by omega) (fun _ _=>rfl);rw [twice_false fun a b ha hb h1=>hin_i a b ha hb h1 (by omega)]
 ·
  simp
 ·
  refine Le.al ?_;simp only [List.forall_mem_cons];exact ⟨rfl,rfl,by simp⟩
theorem fn80:FnOk Tryz.prog 80 146 [2] (bodyOf Tryz.f80):=⟨Tryz.f80,Tryz.func80,by kernel_rfl,by decide,by kernel_rfl,by kernel_rfl⟩
theorem s80A (m:Nat):∀ v:Val,SizeOf.sizeOf v < m→PSpec Tryz.prog 80 [.d (encV v)] (.d (.bool (mayV v))):=by
 induction m with
 | zero=>intros;omega
 | succ m ih=>
  rintro ⟨kd,it,tx,xs,ns⟩ hv;refine PSpec.bd fun hbd=>?_;have hx:xs.length≤9223372036854775807:=by simpa [encVs_length] using hbd.1.2.2.2.1.1
  have hx2:ns.length≤9223372036854775807:=by simpa using hbd.1.2.2.2.2.1.1
  refine PSpec.of fn80 (by simp) fun o nk=>?_;refine wr ?_;refine u_step (g_box rfl fun o2 hb2 hk2=>?_);refine ua (u_nil (WP.seq fun K3 hK3=>?_));refine wr (ua (u_nil (WP.block ?_)));refine WP.loopL (ι:=Nat) (fun i=>⟨al [(1,.loc nk 0),(3,.d (.int .i64 i))],o2,(nk+1)⟩) (fun i=>i≤xs.length∧(xs.take i).all mayV=true) (fun i=>xs.length - i) (fun i hA=>?_) 0 ?_ ?_
  ·
   obtain ⟨hle_i,hin_i⟩:=hA;refine WP.seq fun K5 hK5=>?_;refine wr ?_;refine um ?_;refine uf th27 th25 hb2 ?_;refine ul th25 hb2 ?_;refine un th25 ?_;refine ub ?_;refine u_nil ?_;refine wc (fun hc7=>?_) (fun hc7=>?_) <;> try simp only [Q0,Q1,Q2,Q3,Q4,Q5,Q6,Q7,Q8,ge_iff_le,gt_iff_lt] at hc7
   ·
    refine WP.skip (hK5 _ (WP.seq fun K8 hK8=>?_));refine WP.block (wr (uf th27 th25 hb2 ?_));refine ul th25 hb2 ?_;refine um ?_
    first | refine u_step (o_ia_map rfl rfl th25 rfl th27 rfl (by omega) ?_) | refine u_step (o_ia_vs rfl rfl th25 rfl th27 rfl (by omega) ?_)
    refine uL th27 ?_;refine u_step (o_pcall (ih _ (by exact items_lt' (by omega) hv)) rfl ?_);refine uN ?_;refine u_nil ?_;refine wc (fun hc10=>?_) (fun hc10=>?_) <;> try simp only [Q0,Q1,Q2,Q3,Q4,Q5,Q6,Q7,Q8,ge_iff_le,gt_iff_lt] at hc10
    ·
     refine wr (ua (u_nil (WP.ret ?_)));refine ret_ok rfl ?_ (by omega) (fun t ht=>(hk2 t (by omega)));have h1:=all_false (p:=mayV) (by omega:i < xs.length) hc10;simp [mayV,maysV_all,h1]
    ·
     refine WP.skip (hK8 _ (WP.reg tabOk rfl ?_));refine um (ub (ua (u_nil ?_)));refine ⟨i+1,⟨by omega,?_⟩,by omega,?_⟩
     ·rw [all_snoc (by omega),hin_i];simp_all
     ·refine Le.al ?_;simp only [List.forall_mem_cons];exact ⟨rfl,cnt (by omega),by simp⟩
   ·
    refine WP.exit ?_;refine hK3 _ (WP.seq fun K12 hK12=>?_);refine wr (ua (u_nil (WP.block ?_)));refine WP.loopL (ι:=Nat) (fun j=>⟨al [(1,.loc nk 0),(4,.d (.int .i64 j))],o2,(nk+1)⟩) (fun j=>j≤ns.length∧(ns.take j).all nameV=true) (fun j=>ns.length - j) (fun j hA=>?_) 0 ?_ ?_
    ·
     obtain ⟨hle_j,hin_j⟩:=hA;refine WP.seq fun K14 hK14=>?_;refine wr ?_;refine um ?_;refine uf th27 th22 hb2 ?_;refine ul th22 hb2 ?_;refine un th22 ?_;refine ub ?_;refine u_nil ?_;refine wc (fun hc16=>?_) (fun hc16=>?_) <;> try simp only [Q0,Q1,Q2,Q3,Q4,Q5,Q6,Q7,Q8,ge_iff_le,gt_iff_lt] at hc16
     ·
      refine WP.skip (hK14 _ (WP.seq fun K17 hK17=>?_));refine WP.block (wr (uf th27 th22 hb2 ?_));refine ul th22 hb2 ?_;refine um ?_
      refine u_step (o_ia_map rfl rfl th22 rfl th9 rfl (by omega) ?_)
      refine uL th9 ?_;refine u_step (o_pcall (s113 _) rfl ?_);refine uN ?_;refine u_nil ?_;refine wc (fun hc19=>?_) (fun hc19=>?_) <;> try simp only [Q0,Q1,Q2,Q3,Q4,Q5,Q6,Q7,Q8,ge_iff_le,gt_iff_lt] at hc19
      ·
       refine wr (ua (u_nil (WP.ret ?_)));refine ret_ok rfl ?_ (by omega) (fun t ht=>(hk2 t (by omega)));have h1:=all_false (p:=nameV) (by omega:j < ns.length) hc19;simp [mayV,h1]
      ·
       refine WP.skip (hK17 _ (WP.reg tabOk rfl ?_));refine um (ub (ua (u_nil ?_)));refine ⟨j+1,⟨by omega,?_⟩,by omega,?_⟩
       ·rw [all_snoc (by omega),hin_j];simp_all
       ·refine Le.al ?_;simp only [List.forall_mem_cons];exact ⟨rfl,cnt (by omega),by simp⟩
     ·
      refine WP.exit ?_;refine hK12 _ ?_;refine wd ?_;refine df th27 th25 hb2 ?_;refine dl th25 hb2 ?_;refine dn th25 ?_;refine df th27 th22 hb2 ?_;refine dl th22 hb2 ?_;refine dn th22 ?_;refine da ?_;refine da ?_;refine d_nil ?_;refine WP.seq fun K22 hK22=>?_;refine wr ?_;refine uf th27 th3 hb2 ?_;refine ul th3 hb2 ?_;refine u_nil ?_;refine WP.block ?_;refine wr ?_;refine ub ?_;refine ua ?_;refine u_nil ?_;refine wc (fun hc25=>?_) (fun hc25=>?_) <;> try simp only [Q0,Q1,Q2,Q3,Q4,Q5,Q6,Q7,Q8,ge_iff_le,gt_iff_lt] at hc25
      ·
       refine wr (uf th27 th3 hb2 ?_);refine ul th3 hb2 ?_;refine ub (um ?_);apply gT
       ·rfl
       ·intro hg;exact pf th27 th9 hb2
       apply gT
       ·rfl
       ·intro hg;try simp only [hg,ct,Bt]
        exact pl th9 hb2
       apply gT
       ·rfl
       ·intro hg;try simp only [hg,ct,Bt]
        refine o_bin_str rfl (show _=SV.d (.str []) from rfl) rfl ⟨rfl,rfl,rfl⟩
       refine uA (um ?_);apply gT
       ·rfl
       ·intro hg;exact pm
       apply gT
       ·rfl
       ·intro hg;try simp only [hg,ct,Bt]
        exact pb
       refine uA (um ?_);apply gT
       ·rfl
       ·intro hg;exact pm
       apply gT
       ·rfl
       ·intro hg;try simp only [hg,ct,Bt]
        exact pb
       refine uA (ua (u_nil (WP.ret ?_)));refine ret_ok rfl ?_ (by omega) (fun t ht=>(hk2 t (by omega)));have h1:=all_true (by omega) hin_i;have h2:=all_true (by omega) hin_j;refine congrArg D.bool ?_;have e1:=encVs_length xs
       try simp only [beq_iff_eq,beq_eq_false_iff_ne] at hc7 hc16 hc25
       rw [Bool.eq_iff_iff];simp [mayV,maysV_all,h1,h2,kindOk,e1,hc7,hc16,hc25]
       try omega
      ·
       refine wr ?_;refine ub ?_;refine ua ?_;refine u_nil ?_;refine wc (fun hc28=>?_) (fun hc28=>?_) <;> try simp only [Q0,Q1,Q2,Q3,Q4,Q5,Q6,Q7,Q8,ge_iff_le,gt_iff_lt] at hc28
       ·
        refine wr (uf th27 th3 hb2 ?_);refine ul th3 hb2 ?_;refine ub (um ?_);apply gT
        ·rfl
        ·intro hg;exact pf th27 th3 hb2
        apply gT
        ·rfl
        ·intro hg;try simp only [hg,ct,Bt]
         exact pl th3 hb2
        apply gT
        ·rfl
        ·intro hg;try simp only [hg,ct,Bt]
         exact pb
        refine uA (um ?_);apply gT
        ·rfl
        ·intro hg;exact pf th27 th9 hb2
        apply gT
        ·rfl
        ·intro hg;try simp only [hg,ct,Bt]
         exact pl th9 hb2
        apply gT
        ·rfl
        ·intro hg;try simp only [hg,ct,Bt]
         refine o_bin_str rfl (show _=SV.d (.str []) from rfl) rfl ⟨rfl,rfl,rfl⟩
        refine uA (um ?_);apply gT
        ·rfl
        ·intro hg;exact pm
        apply gT
        ·rfl
        ·intro hg;try simp only [hg,ct,Bt]
         exact pb
        refine uA (um ?_);apply gT
        ·rfl
        ·intro hg;exact pm
        apply gT
        ·rfl
        ·intro hg;try simp only [hg,ct,Bt]
         exact pb
        refine uA (ua (u_nil (WP.ret ?_)));refine ret_ok rfl ?_ (by omega) (fun t ht=>(hk2 t (by omega)));have h1:=all_true (by omega) hin_i;have h2:=all_true (by omega) hin_j;refine congrArg D.bool ?_;have e1:=encVs_length xs
        try simp only [beq_iff_eq,beq_eq_false_iff_ne] at hc7 hc16 hc25 hc28
        rw [Bool.eq_iff_iff];simp [mayV,maysV_all,h1,h2,kindOk,e1,hc7,hc16,hc25,hc28]
        try omega
       ·
        refine wr ?_;refine ub ?_;refine ua ?_;refine u_nil ?_;refine wc (fun hc31=>?_) (fun hc31=>?_) <;> try simp only [Q0,Q1,Q2,Q3,Q4,Q5,Q6,Q7,Q8,ge_iff_le,gt_iff_lt] at hc31
        ·
         refine wr (uf th27 th9 hb2 ?_);refine ul th9 hb2 ?_;refine u_step (o_bin_str rfl (show _=SV.d (.str []) from rfl) rfl ?_);refine um ?_;apply gT
         ·rfl
         ·intro hg;exact pm
         apply gT
         ·rfl
         ·intro hg;try simp only [hg,ct,Bt]
          exact pb
         refine uA (um ?_);apply gT
         ·rfl
         ·intro hg;exact pm
         apply gT
         ·rfl
         ·intro hg;try simp only [hg,ct,Bt]
          exact pb
         refine uA (ua (u_nil (WP.ret ?_)));refine ret_ok rfl ?_ (by omega) (fun t ht=>(hk2 t (by omega)));have h1:=all_true (by omega) hin_i;have h2:=all_true (by omega) hin_j;refine congrArg D.bool ?_;have e1:=encVs_length xs
         try simp only [beq_iff_eq,beq_eq_false_iff_ne] at hc7 hc16 hc25 hc28 hc31
         rw [Bool.eq_iff_iff];simp [mayV,maysV_all,h1,h2,kindOk,e1,hc7,hc16,hc25,hc28,hc31]
         try omega
        ·
         refine WP.seq fun K33 hK33=>?_;refine wr ?_;refine ub ?_;refine ua ?_;refine u_nil ?_;refine wc (fun hc35=>?_) (fun hc35=>?_) <;> try simp only [Q0,Q1,Q2,Q3,Q4,Q5,Q6,Q7,Q8,ge_iff_le,gt_iff_lt] at hc35
         ·
          refine WP.skip ?_;refine hK33 _ ?_;refine wc (fun hc36=>?_) (fun hc36=>?_) <;> try simp only [Q0,Q1,Q2,Q3,Q4,Q5,Q6,Q7,Q8,ge_iff_le,gt_iff_lt] at hc36
          ·
           refine wr (uf th27 th3 hb2 ?_);refine ul th3 hb2 ?_;refine ub (um ?_);apply gT
           ·rfl
           ·intro hg;exact pm
           apply gT
           ·rfl
           ·intro hg;try simp only [hg,ct,Bt]
            exact pb
           refine uA (um ?_);apply gT
           ·rfl
           ·intro hg;exact pm
           apply gT
           ·rfl
           ·intro hg;try simp only [hg,ct,Bt]
            exact pb
           refine uA (ua (u_nil (WP.ret ?_)));refine ret_ok rfl ?_ (by omega) (fun t ht=>(hk2 t (by omega)));have h1:=all_true (by omega) hin_i;have h2:=all_true (by omega) hin_j;refine congrArg D.bool ?_;have e1:=encVs_length xs
           try simp only [beq_iff_eq,beq_eq_false_iff_ne] at hc7 hc16 hc25 hc28 hc31 hc35 hc36
           rw [Bool.eq_iff_iff];simp [mayV,maysV_all,h1,h2,kindOk,e1,hc7,hc16,hc25,hc28,hc31,hc35,hc36]
           try omega
          ·
           refine wr ?_;refine ub ?_;refine ua ?_;refine u_nil ?_;refine wc (fun hc39=>?_) (fun hc39=>?_) <;> try simp only [Q0,Q1,Q2,Q3,Q4,Q5,Q6,Q7,Q8,ge_iff_le,gt_iff_lt] at hc39
           ·
            refine wr (uf th27 th3 hb2 ?_);refine ul th3 hb2 ?_;refine ub (um ?_);apply gT
            ·rfl
            ·intro hg;exact pf th27 th9 hb2
            apply gT
            ·rfl
            ·intro hg;try simp only [hg,ct,Bt]
             exact pl th9 hb2
            apply gT
            ·rfl
            ·intro hg;try simp only [hg,ct,Bt]
             refine o_bin_str rfl (show _=SV.d (.str []) from rfl) rfl ⟨rfl,rfl,rfl⟩
            refine uA (um ?_);apply gT
            ·rfl
            ·intro hg;exact pm
            apply gT
            ·rfl
            ·intro hg;try simp only [hg,ct,Bt]
             exact pb
            refine uA (ua (u_nil (WP.ret ?_)));refine ret_ok rfl ?_ (by omega) (fun t ht=>(hk2 t (by omega)));have h1:=all_true (by omega) hin_i;have h2:=all_true (by omega) hin_j;refine congrArg D.bool ?_;have e1:=encVs_length xs
            try simp only [beq_iff_eq,beq_eq_false_iff_ne] at hc7 hc16 hc25 hc28 hc31 hc35 hc36 hc39
            rw [Bool.eq_iff_iff];simp [mayV,maysV_all,h1,h2,kindOk,e1,hc7,hc16,hc25,hc28,hc31,hc35,hc36,hc39]
            try omega
           ·
            refine wr ?_;refine ub ?_;refine ua ?_;refine u_nil ?_;refine wc (fun hc42=>?_) (fun hc42=>?_) <;> try simp only [Q0,Q1,Q2,Q3,Q4,Q5,Q6,Q7,Q8,ge_iff_le,gt_iff_lt] at hc42
            ·
             refine wr (uf th27 th3 hb2 ?_);refine ul th3 hb2 ?_;refine ub (um ?_);apply gT
             ·rfl
             ·intro hg;exact pf th27 th9 hb2
             apply gT
             ·rfl
             ·intro hg;try simp only [hg,ct,Bt]
              exact pl th9 hb2
             apply gT
             ·rfl
             ·intro hg;try simp only [hg,ct,Bt]
              refine o_bin_str rfl (show _=SV.d (.str []) from rfl) rfl ⟨rfl,rfl,rfl⟩
             refine uA (um ?_);apply gT
             ·rfl
             ·intro hg;exact pm
             apply gT
             ·rfl
             ·intro hg;exact pm
             apply gT
             ·rfl
             ·intro hg;try simp only [hg,ct,Bt]
              exact pb
             refine uA (um ?_);apply gT
             ·rfl
             ·intro hg;exact pf th27 th22 hb2
             apply gT
             ·rfl
             ·intro hg;try simp only [hg,ct,Bt]
              exact pl th22 hb2
             apply gT
             ·rfl
             ·intro hg;try simp only [hg,ct,Bt]
              refine o_pcall (s134 _) rfl ⟨rfl,rfl,rfl⟩
             apply gT
             ·rfl
             ·intro hg;try simp only [hg,ct,Bt]
              exact pN
             refine uA (ua (u_nil (WP.ret ?_)));refine ret_ok rfl ?_ (by omega) (fun t ht=>(hk2 t (by omega)));have h1:=all_true (by omega) hin_i;have h2:=all_true (by omega) hin_j;refine congrArg D.bool ?_;have e1:=encVs_length xs
             try simp only [beq_iff_eq,beq_eq_false_iff_ne] at hc7 hc16 hc25 hc28 hc31 hc35 hc36 hc39 hc42
             rw [Bool.eq_iff_iff];simp [mayV,maysV_all,h1,h2,kindOk,e1,hc7,hc16,hc25,hc28,hc31,hc35,hc36,hc39,hc42]
             try omega
            ·
             refine WP.skip (hK22 _ (wr (ua (u_nil (WP.ret ?_)))));refine ret_ok rfl ?_ (by omega) (fun t ht=>(hk2 t (by omega)));have h1:=all_true (by omega) hin_i;have h2:=all_true (by omega) hin_j;refine congrArg D.bool ?_;have e1:=encVs_length xs
             try simp only [beq_iff_eq,beq_eq_false_iff_ne] at hc7 hc16 hc25 hc28 hc31 hc35 hc36 hc39 hc42
             rw [Bool.eq_iff_iff];simp [mayV,maysV_all,h1,h2,kindOk,e1,hc7,hc16,hc25,hc28,hc31,hc35,hc36,hc39,hc42]
             try omega
         ·
          refine WP.reg tabOk rfl ?_;refine ub ?_;refine ua ?_;refine u_nil ?_;refine hK33 _ ?_;refine wc (fun hc45=>?_) (fun hc45=>?_) <;> try simp only [Q0,Q1,Q2,Q3,Q4,Q5,Q6,Q7,Q8,ge_iff_le,gt_iff_lt] at hc45
          ·
           refine wr (uf th27 th3 hb2 ?_);refine ul th3 hb2 ?_;refine ub (um ?_);apply gT
           ·rfl
           ·intro hg;exact pm
           apply gT
           ·rfl
           ·intro hg;try simp only [hg,ct,Bt]
            exact pb
           refine uA (um ?_);apply gT
           ·rfl
           ·intro hg;exact pm
           apply gT
           ·rfl
           ·intro hg;try simp only [hg,ct,Bt]
            exact pb
           refine uA (ua (u_nil (WP.ret ?_)));refine ret_ok rfl ?_ (by omega) (fun t ht=>(hk2 t (by omega)));have h1:=all_true (by omega) hin_i;have h2:=all_true (by omega) hin_j;refine congrArg D.bool ?_;have e1:=encVs_length xs
           try simp only [beq_iff_eq,beq_eq_false_iff_ne] at hc7 hc16 hc25 hc28 hc31 hc35 hc45
           rw [Bool.eq_iff_iff];simp [mayV,maysV_all,h1,h2,kindOk,e1,hc7,hc16,hc25,hc28,hc31,hc35,hc45]
           try omega
          ·
           refine wr ?_;refine ub ?_;refine ua ?_;refine u_nil ?_;refine wc (fun hc48=>?_) (fun hc48=>?_) <;> try simp only [Q0,Q1,Q2,Q3,Q4,Q5,Q6,Q7,Q8,ge_iff_le,gt_iff_lt] at hc48
           ·
            refine wr (uf th27 th3 hb2 ?_);refine ul th3 hb2 ?_;refine ub (um ?_);apply gT
            ·rfl
            ·intro hg;exact pf th27 th9 hb2
            apply gT
            ·rfl
            ·intro hg;try simp only [hg,ct,Bt]
             exact pl th9 hb2
            apply gT
            ·rfl
            ·intro hg;try simp only [hg,ct,Bt]
             refine o_bin_str rfl (show _=SV.d (.str []) from rfl) rfl ⟨rfl,rfl,rfl⟩
            refine uA (um ?_);apply gT
            ·rfl
            ·intro hg;exact pm
            apply gT
            ·rfl
            ·intro hg;try simp only [hg,ct,Bt]
             exact pb
            refine uA (ua (u_nil (WP.ret ?_)));refine ret_ok rfl ?_ (by omega) (fun t ht=>(hk2 t (by omega)));have h1:=all_true (by omega) hin_i;have h2:=all_true (by omega) hin_j;refine congrArg D.bool ?_;have e1:=encVs_length xs
            try simp only [beq_iff_eq,beq_eq_false_iff_ne] at hc7 hc16 hc25 hc28 hc31 hc35 hc45 hc48
            rw [Bool.eq_iff_iff];simp [mayV,maysV_all,h1,h2,kindOk,e1,hc7,hc16,hc25,hc28,hc31,hc35,hc45,hc48]
            try omega
           ·
            refine wr ?_;refine ub ?_;refine ua ?_;refine u_nil ?_;refine wc (fun hc51=>?_) (fun hc51=>?_) <;> try simp only [Q0,Q1,Q2,Q3,Q4,Q5,Q6,Q7,Q8,ge_iff_le,gt_iff_lt] at hc51
            ·
             refine wr (uf th27 th3 hb2 ?_);refine ul th3 hb2 ?_;refine ub (um ?_);apply gT
             ·rfl
             ·intro hg;exact pf th27 th9 hb2
             apply gT
             ·rfl
             ·intro hg;try simp only [hg,ct,Bt]
              exact pl th9 hb2
             apply gT
             ·rfl
             ·intro hg;try simp only [hg,ct,Bt]
              refine o_bin_str rfl (show _=SV.d (.str []) from rfl) rfl ⟨rfl,rfl,rfl⟩
             refine uA (um ?_);apply gT
             ·rfl
             ·intro hg;exact pm
             apply gT
             ·rfl
             ·intro hg;exact pm
             apply gT
             ·rfl
             ·intro hg;try simp only [hg,ct,Bt]
              exact pb
             refine uA (um ?_);apply gT
             ·rfl
             ·intro hg;exact pf th27 th22 hb2
             apply gT
             ·rfl
             ·intro hg;try simp only [hg,ct,Bt]
              exact pl th22 hb2
             apply gT
             ·rfl
             ·intro hg;try simp only [hg,ct,Bt]
              refine o_pcall (s134 _) rfl ⟨rfl,rfl,rfl⟩
             apply gT
             ·rfl
             ·intro hg;try simp only [hg,ct,Bt]
              exact pN
             refine uA (ua (u_nil (WP.ret ?_)));refine ret_ok rfl ?_ (by omega) (fun t ht=>(hk2 t (by omega)));have h1:=all_true (by omega) hin_i;have h2:=all_true (by omega) hin_j;refine congrArg D.bool ?_;have e1:=encVs_length xs
             try simp only [beq_iff_eq,beq_eq_false_iff_ne] at hc7 hc16 hc25 hc28 hc31 hc35 hc45 hc48 hc51
             rw [Bool.eq_iff_iff];simp [mayV,maysV_all,h1,h2,kindOk,e1,hc7,hc16,hc25,hc28,hc31,hc35,hc45,hc48,hc51]
             try omega
            ·
             refine WP.skip (hK22 _ (wr (ua (u_nil (WP.ret ?_)))));refine ret_ok rfl ?_ (by omega) (fun t ht=>(hk2 t (by omega)));have h1:=all_true (by omega) hin_i;have h2:=all_true (by omega) hin_j;refine congrArg D.bool ?_;have e1:=encVs_length xs
             try simp only [beq_iff_eq,beq_eq_false_iff_ne] at hc7 hc16 hc25 hc28 hc31 hc35 hc45 hc48 hc51
             rw [Bool.eq_iff_iff];simp [mayV,maysV_all,h1,h2,kindOk,e1,hc7,hc16,hc25,hc28,hc31,hc35,hc45,hc48,hc51]
             try omega
    ·
     simp
    ·
     refine Le.al ?_;simp only [List.forall_mem_cons];exact ⟨rfl,rfl,by simp⟩
  ·
   simp
  ·
   refine Le.al ?_;simp only [List.forall_mem_cons];exact ⟨rfl,rfl,by simp⟩
theorem s80 (v:Val):PSpec Tryz.prog 80 [.d (encV v)] (.d (.bool (mayV v))):=s80A _ v (Nat.lt_succ_self _)
theorem fn154:FnOk Tryz.prog 154 19 [4] (bodyOf Tryz.f154):=⟨Tryz.f154,Tryz.func154,by kernel_rfl,by decide,by kernel_rfl,by kernel_rfl⟩
theorem s154 {o:Nat→Option AO} {nk:Nat} (xs:List Str) (g:FuncId) (fs cs:List SV) (p:Str→Bool) (hclo:∀ x∈xs,Spec Tryz.prog g (fs++[.d (D.str x)]++cs) o nk fun r' o' nk'=>r'=.d (.bool (p x))∧o'=o∧nk'=nk):Spec Tryz.prog 154 [.d (.sl 1 (xs.map .str)),.clo g fs cs] o nk (fun r' o' nk'=>r'=.d (.int .i64 (firstI p xs))∧o'=o∧nk'=nk):=by
 refine Spec.bd fun hbd=>?_;have hx:xs.length≤9223372036854775807:=by simpa [encVs_length] using hbd.1.1
 refine Spec.pure (fun _=>trivial) rfl (Spec.of_body fn154 (by simp) ?_);refine wr (ua (u_nil (WP.seq fun K2 hK2=>?_)));refine wr (um (un th22 ?_));refine um (u_nil (WP.block ?_));refine WP.loopL (ι:=Nat) (fun i=>⟨al [(0,.d (.sl 1 (xs.map .str))),(1,.clo g fs cs),(7,.d (.int .i64 (xs.map D.str).length)),(8,.d (.int .i64 i))],o,nk⟩) (fun i=>i≤xs.length∧∀ (j:Nat) (hj:j < xs.length),j < i→p xs[j]=false) (fun i=>xs.length - i) (fun i hA=>?_) 0 ?_ ?_
 ·
  obtain ⟨hle_i,hin_i⟩:=hA;refine wr ?_;refine ub ?_;refine u_nil ?_;refine WP.seq fun K5 hK5=>?_;refine wc (fun hc6=>?_) (fun hc6=>?_) <;> try simp only [Q0,Q1,Q2,Q3,Q4,Q5,Q6,Q7,Q8,ge_iff_le,gt_iff_lt] at hc6
  ·
   refine WP.skip (hK5 _ (WP.seq fun K7 hK7=>?_));refine WP.block (wr (um (ua (u_nil (wr ?_)))));refine u_step (o_moveV (v:=.clo _ _ _) rfl ?_);refine um (um ?_)
   refine u_step (o_ia_map rfl rfl th22 rfl th9 rfl (by omega) ?_)
   refine uL th9 ?_;refine u_step (o_sclo rfl (hclo _ (List.getElem_mem (by omega))) rfl ?_);refine u_nil ?_;refine wc (fun hc10=>?_) (fun hc10=>?_) <;> try simp only [Q0,Q1,Q2,Q3,Q4,Q5,Q6,Q7,Q8,ge_iff_le,gt_iff_lt] at hc10
   ·
    refine wr (um (ua (u_nil (WP.ret ?_))));refine ret_ok rfl ?_ (by omega) (fun _ _=>rfl);rw [firstI_at (by omega) hc10 hin_i]
   ·
    refine WP.skip (hK7 _ (WP.reg tabOk rfl ?_));refine ub (um (u_nil ?_));refine ⟨i+1,⟨by omega,?_⟩,by omega,?_⟩
    ·intro j hj h1;by_cases h2:j=i
     ·subst h2;exact hc10
     ·exact hin_i j hj (by omega)
    ·refine Le.al ?_;simp only [List.forall_mem_cons];exact ⟨rfl,rfl,rfl,cnt (by omega),by simp⟩
  ·
   refine WP.exit ?_;refine hK2 _ (wr (ua (u_nil (WP.ret ?_))));refine ret_ok rfl ?_ (by omega) (fun _ _=>rfl);rw [firstI_none fun j hj=>hin_i j hj (by omega)]
 ·
  simp
 ·
  refine Le.al ?_;simp only [List.forall_mem_cons];exact ⟨rfl,rfl,rfl,rfl,by simp⟩
theorem fn112:FnOk Tryz.prog 112 9 [4] (bodyOf Tryz.f112):=⟨Tryz.f112,Tryz.func112,by kernel_rfl,by decide,by kernel_rfl,by kernel_rfl⟩
theorem s112 {o:Nat→Option AO} {nk:Nat} (xs:List Str) (g:FuncId) (fs cs:List SV) (p:Str→Bool) (hclo:∀ x∈xs,Spec Tryz.prog g (fs++[.d (D.str x)]++cs) o nk fun r' o' nk'=>r'=.d (.bool (p x))∧o'=o∧nk'=nk):Spec Tryz.prog 112 [.d (.sl 1 (xs.map .str)),.clo g fs cs] o nk (fun r' o' nk'=>r'=.d (.bool (xs.any p))∧o'=o∧nk'=nk):=by
 refine Spec.pure (fun _=>trivial) rfl (Spec.of_body fn112 (by simp) ?_);refine wr (ua (u_nil (wr (um ?_))));refine u_step (o_moveV (v:=.clo _ _ _) rfl ?_);refine u_step (o_scall (s154 _ _ _ _ _ hclo) rfl ?_);refine ub (ua (u_nil (WP.ret ?_)));refine ret_ok rfl ?_ (by omega) (fun _ _=>rfl);rw [← firstI_nn]
theorem fn163:FnOk Tryz.prog 163 19 [4] (bodyOf Tryz.f163):=⟨Tryz.f163,Tryz.func163,by kernel_rfl,by decide,by kernel_rfl,by kernel_rfl⟩
theorem s163 {o:Nat→Option AO} {nk:Nat} (xs:List Val) (g:FuncId) (fs cs:List SV) (p:Val→Bool) (hclo:∀ x∈xs,Spec Tryz.prog g (fs++[.d (encV x)]++cs) o nk fun r' o' nk'=>r'=.d (.bool (p x))∧o'=o∧nk'=nk):Spec Tryz.prog 163 [.d (.sl 5 (encVs xs)),.clo g fs cs] o nk (fun r' o' nk'=>r'=.d (.int .i64 (firstI p xs))∧o'=o∧nk'=nk):=by
 refine Spec.bd fun hbd=>?_;have hx:xs.length≤9223372036854775807:=by simpa [encVs_length] using hbd.1.1
 refine Spec.pure (fun _=>trivial) rfl (Spec.of_body fn163 (by simp) ?_);refine wr (ua (u_nil (WP.seq fun K2 hK2=>?_)));refine wr (um (un th25 ?_));refine um (u_nil (WP.block ?_));refine WP.loopL (ι:=Nat) (fun i=>⟨al [(0,.d (.sl 5 (encVs xs))),(1,.clo g fs cs),(7,.d (.int .i64 (encVs xs).length)),(8,.d (.int .i64 i))],o,nk⟩) (fun i=>i≤xs.length∧∀ (j:Nat) (hj:j < xs.length),j < i→p xs[j]=false) (fun i=>xs.length - i) (fun i hA=>?_) 0 ?_ ?_
 ·
  obtain ⟨hle_i,hin_i⟩:=hA;refine wr ?_;refine ub ?_;refine u_nil ?_;refine WP.seq fun K5 hK5=>?_;refine wc (fun hc6=>?_) (fun hc6=>?_) <;> try simp only [Q0,Q1,Q2,Q3,Q4,Q5,Q6,Q7,Q8,ge_iff_le,gt_iff_lt] at hc6
  ·
   refine WP.skip (hK5 _ (WP.seq fun K7 hK7=>?_));refine WP.block (wr (um (ua (u_nil (wr ?_)))));refine u_step (o_moveV (v:=.clo _ _ _) rfl ?_);refine um (um ?_)
   first | refine u_step (o_ia_map rfl rfl th25 rfl th27 rfl (by omega) ?_) | refine u_step (o_ia_vs rfl rfl th25 rfl th27 rfl (by omega) ?_)
   refine uL th27 ?_;refine u_step (o_sclo rfl (hclo _ (List.getElem_mem (by omega))) rfl ?_);refine u_nil ?_;refine wc (fun hc10=>?_) (fun hc10=>?_) <;> try simp only [Q0,Q1,Q2,Q3,Q4,Q5,Q6,Q7,Q8,ge_iff_le,gt_iff_lt] at hc10
   ·
    refine wr (um (ua (u_nil (WP.ret ?_))));refine ret_ok rfl ?_ (by omega) (fun _ _=>rfl);rw [firstI_at (by omega) hc10 hin_i]
   ·
    refine WP.skip (hK7 _ (WP.reg tabOk rfl ?_));refine ub (um (u_nil ?_));refine ⟨i+1,⟨by omega,?_⟩,by omega,?_⟩
    ·intro j hj h1;by_cases h2:j=i
     ·subst h2;exact hc10
     ·exact hin_i j hj (by omega)
    ·refine Le.al ?_;simp only [List.forall_mem_cons];exact ⟨rfl,rfl,rfl,cnt (by omega),by simp⟩
  ·
   refine WP.exit ?_;refine hK2 _ (wr (ua (u_nil (WP.ret ?_))));refine ret_ok rfl ?_ (by omega) (fun _ _=>rfl);rw [firstI_none fun j hj=>hin_i j hj (by omega)]
 ·
  simp
 ·
  refine Le.al ?_;simp only [List.forall_mem_cons];exact ⟨rfl,rfl,rfl,rfl,by simp⟩
theorem fn129:FnOk Tryz.prog 129 9 [4] (bodyOf Tryz.f129):=⟨Tryz.f129,Tryz.func129,by kernel_rfl,by decide,by kernel_rfl,by kernel_rfl⟩
theorem s129 {o:Nat→Option AO} {nk:Nat} (xs:List Val) (g:FuncId) (fs cs:List SV) (p:Val→Bool) (hclo:∀ x∈xs,Spec Tryz.prog g (fs++[.d (encV x)]++cs) o nk fun r' o' nk'=>r'=.d (.bool (p x))∧o'=o∧nk'=nk):Spec Tryz.prog 129 [.d (.sl 5 (encVs xs)),.clo g fs cs] o nk (fun r' o' nk'=>r'=.d (.bool (xs.any p))∧o'=o∧nk'=nk):=by
 refine Spec.pure (fun _=>trivial) rfl (Spec.of_body fn129 (by simp) ?_);refine wr (ua (u_nil (wr (um ?_))));refine u_step (o_moveV (v:=.clo _ _ _) rfl ?_);refine u_step (o_scall (s163 _ _ _ _ _ hclo) rfl ?_);refine ub (ua (u_nil (WP.ret ?_)));refine ret_ok rfl ?_ (by omega) (fun _ _=>rfl);rw [← firstI_nn]
theorem fn159:FnOk Tryz.prog 159 19 [4] (bodyOf Tryz.f159):=⟨Tryz.f159,Tryz.func159,by kernel_rfl,by decide,by kernel_rfl,by kernel_rfl⟩
theorem s159 {o:Nat→Option AO} {nk:Nat} (xs:List Dlt) (g:FuncId) (fs cs:List SV) (p:Dlt→Bool) (hclo:∀ x∈xs,Spec Tryz.prog g (fs++[.d (encD x)]++cs) o nk fun r' o' nk'=>r'=.d (.bool (p x))∧o'=o∧nk'=nk):Spec Tryz.prog 159 [.d (.sl 8 (xs.map encD)),.clo g fs cs] o nk (fun r' o' nk'=>r'=.d (.int .i64 (firstI p xs))∧o'=o∧nk'=nk):=by
 refine Spec.bd fun hbd=>?_;have hx:xs.length≤9223372036854775807:=by simpa [encVs_length] using hbd.1.1
 refine Spec.pure (fun _=>trivial) rfl (Spec.of_body fn159 (by simp) ?_);refine wr (ua (u_nil (WP.seq fun K2 hK2=>?_)));refine wr (um (un th28 ?_));refine um (u_nil (WP.block ?_));refine WP.loopL (ι:=Nat) (fun i=>⟨al [(0,.d (.sl 8 (xs.map encD))),(1,.clo g fs cs),(7,.d (.int .i64 (xs.map encD).length)),(8,.d (.int .i64 i))],o,nk⟩) (fun i=>i≤xs.length∧∀ (j:Nat) (hj:j < xs.length),j < i→p xs[j]=false) (fun i=>xs.length - i) (fun i hA=>?_) 0 ?_ ?_
 ·
  obtain ⟨hle_i,hin_i⟩:=hA;refine wr ?_;refine ub ?_;refine u_nil ?_;refine WP.seq fun K5 hK5=>?_;refine wc (fun hc6=>?_) (fun hc6=>?_) <;> try simp only [Q0,Q1,Q2,Q3,Q4,Q5,Q6,Q7,Q8,ge_iff_le,gt_iff_lt] at hc6
  ·
   refine WP.skip (hK5 _ (WP.seq fun K7 hK7=>?_));refine WP.block (wr (um (ua (u_nil (wr ?_)))));refine u_step (o_moveV (v:=.clo _ _ _) rfl ?_);refine um (um ?_)
   refine u_step (o_ia_map rfl rfl th28 rfl th83 rfl (by omega) ?_)
   refine uL th83 ?_;refine u_step (o_sclo rfl (hclo _ (List.getElem_mem (by omega))) rfl ?_);refine u_nil ?_;refine wc (fun hc10=>?_) (fun hc10=>?_) <;> try simp only [Q0,Q1,Q2,Q3,Q4,Q5,Q6,Q7,Q8,ge_iff_le,gt_iff_lt] at hc10
   ·
    refine wr (um (ua (u_nil (WP.ret ?_))));refine ret_ok rfl ?_ (by omega) (fun _ _=>rfl);rw [firstI_at (by omega) hc10 hin_i]
   ·
    refine WP.skip (hK7 _ (WP.reg tabOk rfl ?_));refine ub (um (u_nil ?_));refine ⟨i+1,⟨by omega,?_⟩,by omega,?_⟩
    ·intro j hj h1;by_cases h2:j=i
     ·subst h2;exact hc10
     ·exact hin_i j hj (by omega)
    ·refine Le.al ?_;simp only [List.forall_mem_cons];exact ⟨rfl,rfl,rfl,cnt (by omega),by simp⟩
  ·
   refine WP.exit ?_;refine hK2 _ (wr (ua (u_nil (WP.ret ?_))));refine ret_ok rfl ?_ (by omega) (fun _ _=>rfl);rw [firstI_none fun j hj=>hin_i j hj (by omega)]
 ·
  simp
 ·
  refine Le.al ?_;simp only [List.forall_mem_cons];exact ⟨rfl,rfl,rfl,rfl,by simp⟩
theorem fn121:FnOk Tryz.prog 121 9 [4] (bodyOf Tryz.f121):=⟨Tryz.f121,Tryz.func121,by kernel_rfl,by decide,by kernel_rfl,by kernel_rfl⟩
theorem s121 {o:Nat→Option AO} {nk:Nat} (xs:List Dlt) (g:FuncId) (fs cs:List SV) (p:Dlt→Bool) (hclo:∀ x∈xs,Spec Tryz.prog g (fs++[.d (encD x)]++cs) o nk fun r' o' nk'=>r'=.d (.bool (p x))∧o'=o∧nk'=nk):Spec Tryz.prog 121 [.d (.sl 8 (xs.map encD)),.clo g fs cs] o nk (fun r' o' nk'=>r'=.d (.bool (xs.any p))∧o'=o∧nk'=nk):=by
 refine Spec.pure (fun _=>trivial) rfl (Spec.of_body fn121 (by simp) ?_);refine wr (ua (u_nil (wr (um ?_))));refine u_step (o_moveV (v:=.clo _ _ _) rfl ?_);refine u_step (o_scall (s159 _ _ _ _ _ hclo) rfl ?_);refine ub (ua (u_nil (WP.ret ?_)));refine ret_ok rfl ?_ (by omega) (fun _ _=>rfl);rw [← firstI_nn]
theorem PSpec.extern {P : Program} {f : FuncId} {fn : Func} {e : Array Value → Sem Value} {args : List SV} {x : D} (hf : P.funcs[f]? = some fn) (hname : (fn.name == "runtime.NumGoroutine") = false) (hb : fn.body.isNone = true) (hn : Extern.findNext fn = none) (he : Extern.find fn = some e)
    (h:∀ (w:World) (S:Nat→Prop) (γ:Nat→Value) (o:Nat→Option AO) (vs:List Value),vs.length=args.length→(∀ (i:Nat) (c:SV) (v:Value),args[i]?=some c→vs[i]?=some v→SR w S γ o c v)→∃ u,(e vs.toArray).run P w=.ok u w∧Rd w S x u):PSpec P f args (.d x):=by
  intro o nk w S γ vs h1 h2 h3 h4;obtain ⟨u,h5,h6⟩:=h w S γ o vs h2 h3;unfold Does;rw [run_callFunc_extern hf hname hb hn he,h5];exact ⟨.d x,o,nk,S,γ,⟨rfl,rfl,rfl⟩,h1,Tr.refl _ _ _ _ _,.d _ _ h6,trivial⟩
theorem s208 (s:Str) (c:Int):PSpec Tryz.prog 208 [.d (.str s),.d (.int .u8 c)] (.d (.int .i64 (Go.Lib.indexByte s c.toNat.toUInt8))):=
 PSpec.extern Tryz.func208 (by kernel_rfl) (by kernel_rfl) (by kernel_rfl) (e:=Extern.BytealgIndexByte.indexByte) (by kernel_rfl) fun w S γ o vs hl hr=>by
  match vs,hl with
  | [u,v],_=>
   cases hr 0 _ u rfl rfl with
   | d _ _ hu=>cases hu with
    | str=>cases hr 1 _ v rfl rfl with
     | d _ _ hv=>cases hv with
      | int=>exact ⟨_,Go.Lib.run_indexByteString _ _ _,.int _ _⟩
theorem s212 (s t:Str):PSpec Tryz.prog 212 [.d (.str s),.d (.str t)] (.d (.int .i64 (Go.Lib.compareBytes s t))):=
 PSpec.extern Tryz.func212 (by kernel_rfl) (by kernel_rfl) (by kernel_rfl) (e:=Extern.BytealgCompare.compare) (by kernel_rfl) fun w S γ o vs hl hr=>by
  match vs,hl with
  | [u,v],_=>
   cases hr 0 _ u rfl rfl with
   | d _ _ hu=>cases hu with
    | str=>cases hr 1 _ v rfl rfl with
     | d _ _ hv=>cases hv with
      | str=>exact ⟨_,Go.Lib.run_compareString _ _ _,.int _ _⟩
theorem fn203:FnOk Tryz.prog 203 8 [4] (bodyOf Tryz.f203):=⟨Tryz.f203,Tryz.func203,by kernel_rfl,by decide,by kernel_rfl,by kernel_rfl⟩
theorem s203 (s:Str) (c:Int):PSpec Tryz.prog 203 [.d (.str s),.d (.int .u8 c)] (.d (.int .i64 (Go.Lib.indexByte s c.toNat.toUInt8))):=by
 refine PSpec.of fn203 (by simp) fun o nk=>?_;refine wr (ua (u_nil (wr (um (um ?_)))));refine u_step (o_pcall (s208 _ _) rfl ?_);refine ua (u_nil (WP.ret ?_));refine ret_ok rfl ?_ (by omega) (fun _ _=>rfl);rfl
theorem fn181:FnOk Tryz.prog 181 18 [4] (bodyOf Tryz.f181):=⟨Tryz.f181,Tryz.func181,by kernel_rfl,by decide,by kernel_rfl,by kernel_rfl⟩
theorem s181 (s p:Str):PSpec Tryz.prog 181 [.d (.str s),.d (.str p)] (.d (.bool (p.isPrefixOf s))):=by
 refine PSpec.of fn181 (by simp) fun o nk=>?_;refine wr (ua (u_nil (wr (um ?_))));refine u_step (o_len_str rfl th9 rfl ?_);refine um ?_;refine u_step (o_len_str rfl th9 rfl ?_);refine ub (um ?_);apply gT
 ·rfl
 ·intro hg;exact pm
 apply gT
 ·rfl
 ·intro hg;exact pm
 apply gT
 ·rfl
 ·intro hg;try simp only [hg,ct,Bt]
  refine o_len_str rfl th9 rfl ⟨rfl,rfl,rfl⟩
 apply gT
 ·rfl
 ·intro hg;try simp only [hg,ct,Bt]
  have hg2:=hg;try simp only [Q0,Q1,Q2,Q3,Q4,Q5,Q6,Q9,Qa,Qb,Qc,Qd] at hg2
  refine o_sl_str rfl th9 rfl (bnd_nat (by simp at hg;omega)) rfl ⟨rfl,rfl,rfl⟩
 apply gT
 ·rfl
 ·intro hg;exact pm
 apply gT
 ·rfl
 ·intro hg;try simp only [hg,ct,Bt]
  exact ps
 refine uA (ua (u_nil (WP.ret ?_)));refine ret_ok rfl ?_ (by omega) (fun _ _=>rfl);refine congrArg D.bool ?_;rw [Bool.eq_iff_iff];simp only [List.drop_zero,Bool.and_eq_true,decide_eq_true_eq,List.isPrefixOf_iff_prefix,List.prefix_iff_eq_take];constructor
 ·rintro ⟨_,h⟩;exact h.symm
 ·intro h;refine ⟨?_,h.symm⟩;have:=congrArg List.length h;simp at this;omega
theorem fn152:FnOk Tryz.prog 152 8 [4] (bodyOf Tryz.f152):=⟨Tryz.f152,Tryz.func152,by kernel_rfl,by decide,by kernel_rfl,by kernel_rfl⟩
theorem s152 (s p:Str):PSpec Tryz.prog 152 [.d (.str s),.d (.str p)] (.d (.bool (p.isPrefixOf s))):=by
 refine PSpec.of fn152 (by simp) fun o nk=>?_;refine wr (ua (u_nil (wr (um (um ?_)))));refine u_step (o_pcall (s181 _ _) rfl ?_);refine ua (u_nil (WP.ret ?_));refine ret_ok rfl ?_ (by omega) (fun _ _=>rfl);rfl
theorem take_snoc2 {ns:List Str} {i:Nat} (h:i < ns.length):ns.take (i+1)=ns.take i++[ns[i]]:=List.take_succ_eq_append_getElem h
theorem indexByte_nn (s:Str) (c:UInt8):decide (0≤Go.Lib.indexByte s c)=decide (c∈s):=by
 induction s with
 | nil=>simp [Go.Lib.indexByte]
 | cons x s ih=>
  rw [Bool.eq_iff_iff] at ih ⊢;simp only [decide_eq_true_eq] at ih ⊢;have h1:=Go.Lib.indexByte_ge s c;simp only [Go.Lib.indexByte,List.mem_cons];by_cases hx:x=c
  ·subst hx;simp
  ·have hx':¬ c=x:=fun e=>hx e.symm;simp only [beq_iff_eq,hx,if_false,hx',false_or];rw [← ih];split <;> omega
theorem fn199:FnOk Tryz.prog 199 143 [4] (bodyOf Tryz.f199):=⟨Tryz.f199,Tryz.func199,by kernel_rfl,by decide,by kernel_rfl,by kernel_rfl⟩
theorem s199 (s:Str):PSpec Tryz.prog 199 [.d (.str s),.d (.str [46])] (.d (.int .i64 (Go.Lib.indexByte s 46))):=by
 refine PSpec.of fn199 (by simp) fun o nk=>?_;refine wr (ua (u_nil (wr (um ?_))));refine u_step (o_len_str rfl th9 rfl ?_);refine ua (u_nil (WP.seq fun K3 hK3=>?_));refine WP.block (wr (um (ub (um ?_))));apply gF
 ·rfl
 ·intro hg;exact pm
 apply gF
 ·rfl
 ·intro hg;exact pm
 apply gF
 ·rfl
 ·intro hg;try simp only [hg,ct,Bt]
  exact ps
 refine uO ?_;refine ua ?_;refine u_nil ?_;refine wc (fun hc5=>?_) (fun hc5=>?_) <;> try simp only [Q0,Q1,Q2,Q3,Q4,Q5,Q6,Q7,Q8,ge_iff_le,gt_iff_lt] at hc5
 ·
  refine wr (ua (u_nil (WP.ret ?_)));refine ret_ok rfl ?_ (by omega) (fun _ _=>rfl);have hs:[46]=s:=by simpa using hc5
  subst hs;rfl
 ·
  refine wr ?_;refine um ?_;refine ub ?_;refine ua ?_;refine u_nil ?_;refine wc (fun hc8=>?_) (fun hc8=>?_) <;> try simp only [Q0,Q1,Q2,Q3,Q4,Q5,Q6,Q7,Q8,ge_iff_le,gt_iff_lt] at hc8
  ·
   refine wr (um (um ?_));refine u_step (o_ix rfl rfl th9 rfl ?_ ?_ ?_)
   ·decide
   ·decide
   refine u_step (o_pcall (s203 _ _) rfl ?_);refine ua (u_nil (WP.ret ?_));refine ret_ok rfl ?_ (by omega) (fun _ _=>rfl);rfl
  ·
   exact absurd hc8 (by decide)
theorem fn182:FnOk Tryz.prog 182 8 [4] (bodyOf Tryz.f182):=⟨Tryz.f182,Tryz.func182,by kernel_rfl,by decide,by kernel_rfl,by kernel_rfl⟩
theorem s182 (s:Str):PSpec Tryz.prog 182 [.d (.str s),.d (.str [46])] (.d (.int .i64 (Go.Lib.indexByte s 46))):=by
 refine PSpec.of fn182 (by simp) fun o nk=>?_;refine wr (ua (u_nil (wr (um (um ?_)))));refine u_step (o_pcall (s199 _) rfl ?_);refine ua (u_nil (WP.ret ?_));refine ret_ok rfl ?_ (by omega) (fun _ _=>rfl);rfl
theorem fn153:FnOk Tryz.prog 153 9 [4] (bodyOf Tryz.f153):=⟨Tryz.f153,Tryz.func153,by kernel_rfl,by decide,by kernel_rfl,by kernel_rfl⟩
theorem s153 (s:Str):PSpec Tryz.prog 153 [.d (.str s),.d (.str [46])] (.d (.bool (decide ((46:UInt8)∈s)))):=by
 refine PSpec.of fn153 (by simp) fun o nk=>?_;refine wr (ua (u_nil (wr (um (um ?_)))));refine u_step (o_pcall (s182 _) rfl ?_);refine ub (ua (u_nil (WP.ret ?_)));refine ret_ok rfl ?_ (by omega) (fun _ _=>rfl);rw [← indexByte_nn]
theorem fn111:FnOk Tryz.prog 111 21 [2] (bodyOf Tryz.f111):=⟨Tryz.f111,Tryz.func111,by kernel_rfl,by decide,by kernel_rfl,by kernel_rfl⟩
theorem s111 (x:Str):PSpec Tryz.prog 111 [.d (.str x)] (.d (.bool (nameV x))):=by
 refine PSpec.of fn111 (by simp) fun o nk=>?_;refine wr (ua (u_nil (wr (um ?_))));refine u_step (o_len_str rfl th9 rfl ?_);refine ub (um ?_);apply gT
 ·rfl
 ·intro hg;exact pm
 apply gT
 ·rfl
 ·intro hg;try simp only [hg,ct,Bt]
  refine o_len_str rfl th9 rfl ⟨rfl,rfl,rfl⟩
 apply gT
 ·rfl
 ·intro hg;try simp only [hg,ct,Bt]
  exact pb
 refine uA (um ?_);apply gT
 ·rfl
 ·intro hg;exact pm
 apply gT
 ·rfl
 ·intro hg;try simp only [hg,ct,Bt]
  refine o_pcall (s152 _ _) rfl ⟨rfl,rfl,rfl⟩
 apply gT
 ·rfl
 ·intro hg;try simp only [hg,ct,Bt]
  exact pN
 refine uA (um ?_);apply gT
 ·rfl
 ·intro hg;exact pm
 apply gT
 ·rfl
 ·intro hg;try simp only [hg,ct,Bt]
  refine o_pcall (s153 _) rfl ⟨rfl,rfl,rfl⟩
 apply gT
 ·rfl
 ·intro hg;try simp only [hg,ct,Bt]
  exact pN
 refine uA (ua (u_nil (WP.ret ?_)));refine ret_ok rfl ?_ (by omega) (fun _ _=>rfl);refine congrArg D.bool ?_;rw [Bool.eq_iff_iff];simp only [nameV,Bool.and_eq_true,decide_eq_true_eq,Bool.not_eq_true',decide_eq_false_iff_not];have h1:List.isPrefixOf [36] x=false↔x[0]?≠some 36:=by
  cases x with
  | nil=>simp [List.isPrefixOf]
  | cons c x=>
   simp only [List.isPrefixOf,List.getElem?_cons_zero,Bool.and_true,ne_eq,Option.some.injEq];by_cases h:c=36
   ·subst h;simp
   ·have h0:((36:UInt8) == c)=false:=by simpa using fun e=>h e.symm
    simp [h0,h]
 rw [h1];constructor
 ·rintro ⟨⟨⟨h2,h3⟩,h4⟩,h5⟩;exact ⟨by omega,by omega,h4,h5⟩
 ·rintro ⟨h2,h3,h4,h5⟩;exact ⟨⟨⟨by omega,by omega⟩,h4⟩,h5⟩
theorem fn128:FnOk Tryz.prog 128 24 [2] (bodyOf Tryz.f128):=⟨Tryz.f128,Tryz.func128,by kernel_rfl,by decide,by kernel_rfl,by kernel_rfl⟩
theorem s128 (ns:List Str):PSpec Tryz.prog 128 [.d (.sl 1 (ns.map .str))] (.d (.bool (namesV ns))):=by
 refine PSpec.bd fun hbd=>?_;have hx:ns.length≤9223372036854775807:=by simpa using hbd.1.1
 refine PSpec.of fn128 (by simp) fun o nk=>?_;refine wr (ua (u_nil (wr ?_)));refine u_step (g_mm fun o3 hb3 hk3=>?_);refine u_step (o_assignV (v:=.raw _) rfl ?_);refine u_nil (WP.seq fun K4 hK4=>?_);refine wr (um (un th22 ?_));refine um (u_nil (WP.block ?_));refine WP.loopL (ι:=Nat×(Nat→Option AO)) (fun ⟨i,o2⟩=>⟨al [(3,.raw nk),(7,.d (.sl 1 (ns.map .str))),(8,.d (.int .i64 (ns.map D.str).length)),(9,.d (.int .i64 i))],o2,(nk+1)⟩) (fun ⟨i,o2⟩=>i≤ns.length∧o2 nk=some (.raw (setOb (ns.take i)))∧(∀ t,t < nk→o2 t=o t)∧(ns.take i).all nameV=true∧(ns.take i).Nodup) (fun ⟨i,o2⟩=>ns.length - i) (fun ⟨i,o2⟩ hA=>?_) ⟨0,o3⟩ ?_ ?_
 ·
  obtain ⟨hle,hob,hfr,hal,hnd⟩:=hA;refine wr ?_;refine ub ?_;refine u_nil ?_;refine WP.seq fun K7 hK7=>?_;refine wc (fun hc8=>?_) (fun hc8=>?_) <;> try simp only [Q0,Q1,Q2,Q3,Q4,Q5,Q6,Q7,Q8,ge_iff_le,gt_iff_lt] at hc8
  ·
   refine WP.skip (hK7 _ (WP.seq fun K9 hK9=>?_));refine WP.block (wr ?_)
   refine u_step (o_ia_map rfl rfl th22 rfl th9 rfl (by omega) ?_)
   refine uL th9 ?_;refine ua (u_nil (WP.seq fun K11 hK11=>?_));refine wr (um ?_);refine u_step (o_pcall (s111 _) rfl ?_);refine uN (um ?_);apply gF
   ·rfl
   ·intro hg;refine o_moveV (v:=.raw _) rfl ⟨rfl,rfl,rfl⟩
   apply gF
   ·rfl
   ·intro hg;exact pm
   apply gF
   ·rfl
   ·intro hg;try simp only [hg,ct,Bt]
    refine o_lookup rfl rfl th138 rfl th9 rfl th4 rfl rfl hob ⟨rfl,rfl,rfl⟩
   refine uO ?_;refine u_nil ?_;refine wc (fun hc13=>?_) (fun hc13=>?_) <;> try simp only [Q0,Q1,Q2,Q3,Q4,Q5,Q6,Q7,Q8,ge_iff_le,gt_iff_lt] at hc13
   ·
    refine wr (ua (u_nil (WP.ret ?_)));refine ret_ok rfl ?_ (by omega) (fun t ht=>(hfr t (by omega)));rw [names_bad (by omega) hc13]
   ·
    refine WP.skip (hK11 _ (WP.reg tabOk rfl ?_));refine u_step (o_moveV (v:=.raw _) rfl ?_);refine um ?_;refine u_step0 (g_mu rfl rfl rfl th138 rfl th9 rfl hob (by simpa using (Bool.or_eq_false_iff.1 hc13).2) fun o15 hb15 hk15=>?_);refine u_nil (hK9 _ (WP.reg tabOk rfl ?_));refine ub (um (u_nil ?_));have hc:=Bool.or_eq_false_iff.1 hc13;refine ⟨⟨i+1,o15⟩,⟨by omega,?_,(fun t ht=>(hk15 t (by omega)).trans ((hfr t (by omega)))),?_,?_⟩,by simp only;omega,?_⟩
    ·rw [take_snoc2 (by omega)];exact hb15
    ·rw [all_snoc (by omega),hal];simpa using hc.1
    ·exact nodup_snoc (by omega) hnd (by simpa using hc.2)
    ·refine Le.al ?_;simp only [List.forall_mem_cons];exact ⟨rfl,rfl,rfl,cnt (by omega),by simp⟩
  ·
   refine WP.exit ?_;refine hK4 _ (wr (ua (u_nil (WP.ret ?_))));refine ret_ok rfl ?_ (by omega) (fun t ht=>(hfr t (by omega)));rw [names_good (by rwa [List.take_of_length_le (by omega)] at hal) (by rwa [List.take_of_length_le (by omega)] at hnd)]
 ·
  refine ⟨by simp,hb3,(fun t ht=>(hk3 t (by omega))),by simp,by simp⟩
 ·
  refine Le.al ?_;simp only [List.forall_mem_cons];exact ⟨rfl,rfl,rfl,rfl,by simp⟩
theorem fn130:FnOk Tryz.prog 130 6 [2] (bodyOf Tryz.f130):=⟨Tryz.f130,Tryz.func130,by kernel_rfl,by decide,by kernel_rfl,by kernel_rfl⟩
theorem s130 (x:Val) (h76:PSpec Tryz.prog 76 [.d (encV x)] (.d (.bool (mayV x)))):PSpec Tryz.prog 130 [.d (encV x)] (.d (.bool (!mayV x))):=by
 obtain ⟨kd,it,tx,xs,ns⟩:=x;refine PSpec.of fn130 (by simp) fun o nk=>?_;refine wr ?_;refine u_step (g_box rfl fun o2 hb2 hk2=>?_);refine ua (u_nil (wr (ug th27 hb2 ?_)));refine u_step (o_pcall (h76) rfl ?_);refine uN (ua (u_nil (WP.ret ?_)));refine ret_ok rfl ?_ (by omega) (fun t ht=>(hk2 t (by omega)));rfl
theorem fn76:FnOk Tryz.prog 76 109 [2] (bodyOf Tryz.f76):=⟨Tryz.f76,Tryz.func76,by kernel_rfl,by decide,by kernel_rfl,by kernel_rfl⟩
theorem s76A (m:Nat):∀ v:Val,SizeOf.sizeOf v < m→PSpec Tryz.prog 76 [.d (encV v)] (.d (.bool (mayV v))):=by
 induction m with
 | zero=>intros;omega
 | succ m ih=>
  rintro ⟨kd,it,tx,xs,ns⟩ hv;refine PSpec.bd fun hbd=>?_;refine PSpec.of fn76 (by simp) fun o nk=>?_;refine wr ?_;refine u_step (g_box rfl fun o2 hb2 hk2=>?_);refine ua (u_nil (wr (uf th27 th3 hb2 ?_)));refine ul th3 hb2 ?_;refine ub (um ?_);apply gF
  ·rfl
  ·intro hg;exact pf th27 th3 hb2
  apply gF
  ·rfl
  ·intro hg;try simp only [hg,ct,Bt]
   exact pl th3 hb2
  apply gF
  ·rfl
  ·intro hg;try simp only [hg,ct,Bt]
   exact pb
  refine uO (ua (u_nil (wr (uf th27 th3 hb2 ?_))));refine ul th3 hb2 ?_;refine ub (um ?_);apply gF
  ·rfl
  ·intro hg;exact pf th27 th3 hb2
  apply gF
  ·rfl
  ·intro hg;try simp only [hg,ct,Bt]
   exact pl th3 hb2
  apply gF
  ·rfl
  ·intro hg;try simp only [hg,ct,Bt]
   exact pb
  refine uO (ua (u_nil (wr (uf th27 th3 hb2 ?_))));refine ul th3 hb2 ?_;refine ub (um ?_);apply gF
  ·rfl
  ·intro hg;exact pf th27 th3 hb2
  apply gF
  ·rfl
  ·intro hg;try simp only [hg,ct,Bt]
   exact pl th3 hb2
  apply gF
  ·rfl
  ·intro hg;try simp only [hg,ct,Bt]
   exact pb
  refine uO (ua (u_nil (WP.seq fun K6 hK6=>?_)));refine WP.block (wr (uf th27 th3 hb2 ?_));refine ul th3 hb2 ?_;refine ub (um ?_);apply gF
  ·rfl
  ·intro hg;exact pf th27 th3 hb2
  apply gF
  ·rfl
  ·intro hg;try simp only [hg,ct,Bt]
   exact pl th3 hb2
  apply gF
  ·rfl
  ·intro hg;try simp only [hg,ct,Bt]
   exact pb
  refine uO ?_;refine ua ?_;refine u_nil ?_;refine wc (fun hc8=>?_) (fun hc8=>?_) <;> try simp only [Q0,Q1,Q2,Q3,Q4,Q5,Q6,Q7,Q8,ge_iff_le,gt_iff_lt] at hc8
  ·
   refine wr (ua (u_nil (WP.ret ?_)));refine ret_ok rfl ?_ (by omega) (fun t ht=>(hk2 t (by omega)));clear hK6;refine congrArg D.bool ?_;have e1:=encVs_length xs;clear hbd ih hv;rw [Bool.eq_iff_iff];have hkd:kd < 1∨7 < kd∨kd=1∨kd=2∨kd=3∨kd=4∨kd=5∨kd=6∨kd=7:=by omega
   rcases hkd with h | h | rfl | rfl | rfl | rfl | rfl | rfl | rfl <;> simp_all [mayV,maysV_all,kindOk,namesV]
   all_goals grind
  ·
   refine WP.seq fun K10 hK10=>?_;refine wr (uf th27 th25 hb2 ?_);refine ul th25 hb2 ?_;refine un th25 ?_;refine ub (um ?_);apply gT
   ·rfl
   ·intro hg;exact pm
   apply gT
   ·rfl
   ·intro hg;try simp only [hg,ct,Bt]
    exact pN
   refine uA ?_;refine ua ?_;refine u_nil ?_;refine wc (fun hc12=>?_) (fun hc12=>?_) <;> try simp only [Q0,Q1,Q2,Q3,Q4,Q5,Q6,Q7,Q8,ge_iff_le,gt_iff_lt] at hc12
   ·
    refine WP.skip ?_;refine hK10 _ ?_;refine wc (fun hc13=>?_) (fun hc13=>?_) <;> try simp only [Q0,Q1,Q2,Q3,Q4,Q5,Q6,Q7,Q8,ge_iff_le,gt_iff_lt] at hc13
    ·
     refine wr (ua (u_nil (WP.ret ?_)));refine ret_ok rfl ?_ (by omega) (fun t ht=>(hk2 t (by omega)));clear hK6 hK10;refine congrArg D.bool ?_;have e1:=encVs_length xs;clear hbd ih hv;rw [Bool.eq_iff_iff];have hkd:kd < 1∨7 < kd∨kd=1∨kd=2∨kd=3∨kd=4∨kd=5∨kd=6∨kd=7:=by omega
     rcases hkd with h | h | rfl | rfl | rfl | rfl | rfl | rfl | rfl <;> simp_all [mayV,maysV_all,kindOk,namesV]
     all_goals grind
    ·
     refine wr (uf th27 th3 hb2 ?_);refine ul th3 hb2 ?_;refine ub (um ?_);apply gT
     ·rfl
     ·intro hg;exact pf th27 th3 hb2
     apply gT
     ·rfl
     ·intro hg;try simp only [hg,ct,Bt]
      exact pl th3 hb2
     apply gT
     ·rfl
     ·intro hg;try simp only [hg,ct,Bt]
      exact pb
     refine uA (um ?_);apply gT
     ·rfl
     ·intro hg;exact pf th27 th3 hb2
     apply gT
     ·rfl
     ·intro hg;try simp only [hg,ct,Bt]
      exact pl th3 hb2
     apply gT
     ·rfl
     ·intro hg;try simp only [hg,ct,Bt]
      exact pb
     refine uA ?_;refine ua ?_;refine u_nil ?_;refine wc (fun hc16=>?_) (fun hc16=>?_) <;> try simp only [Q0,Q1,Q2,Q3,Q4,Q5,Q6,Q7,Q8,ge_iff_le,gt_iff_lt] at hc16
     ·
      refine wr (ua (u_nil (WP.ret ?_)));refine ret_ok rfl ?_ (by omega) (fun t ht=>(hk2 t (by omega)));clear hK6 hK10;refine congrArg D.bool ?_;have e1:=encVs_length xs;clear hbd ih hv;rw [Bool.eq_iff_iff];have hkd:kd < 1∨7 < kd∨kd=1∨kd=2∨kd=3∨kd=4∨kd=5∨kd=6∨kd=7:=by omega
      rcases hkd with h | h | rfl | rfl | rfl | rfl | rfl | rfl | rfl <;> simp_all [mayV,maysV_all,kindOk,namesV]
      all_goals grind
     ·
      refine wr (uf th27 th3 hb2 ?_);refine ul th3 hb2 ?_;refine ub (um ?_);apply gT
      ·rfl
      ·intro hg;exact pf th27 th22 hb2
      apply gT
      ·rfl
      ·intro hg;try simp only [hg,ct,Bt]
       exact pl th22 hb2
      apply gT
      ·rfl
      ·intro hg;try simp only [hg,ct,Bt]
       exact pn th22
      apply gT
      ·rfl
      ·intro hg;try simp only [hg,ct,Bt]
       exact pb
      refine uA ?_;refine ua ?_;refine u_nil ?_;refine wc (fun hc19=>?_) (fun hc19=>?_) <;> try simp only [Q0,Q1,Q2,Q3,Q4,Q5,Q6,Q7,Q8,ge_iff_le,gt_iff_lt] at hc19
      ·
       refine wr (ua (u_nil (WP.ret ?_)));refine ret_ok rfl ?_ (by omega) (fun t ht=>(hk2 t (by omega)));clear hK6 hK10;refine congrArg D.bool ?_;have e1:=encVs_length xs;clear hbd ih hv;rw [Bool.eq_iff_iff];have hkd:kd < 1∨7 < kd∨kd=1∨kd=2∨kd=3∨kd=4∨kd=5∨kd=6∨kd=7:=by omega
       rcases hkd with h | h | rfl | rfl | rfl | rfl | rfl | rfl | rfl <;> simp_all [mayV,maysV_all,kindOk,namesV]
       all_goals grind
      ·
       refine wr (uf th27 th3 hb2 ?_);refine ul th3 hb2 ?_;refine ub (um ?_);apply gT
       ·rfl
       ·intro hg;exact pf th27 th22 hb2
       apply gT
       ·rfl
       ·intro hg;try simp only [hg,ct,Bt]
        exact pl th22 hb2
       apply gT
       ·rfl
       ·intro hg;try simp only [hg,ct,Bt]
        exact pn th22
       apply gT
       ·rfl
       ·intro hg;exact pf th27 th25 hb2
       apply gT
       ·rfl
       ·intro hg;try simp only [hg,ct,Bt]
        exact pl th25 hb2
       apply gT
       ·rfl
       ·intro hg;try simp only [hg,ct,Bt]
        exact pn th25
       apply gT
       ·rfl
       ·intro hg;try simp only [hg,ct,Bt]
        exact pb
       apply gT
       ·rfl
       ·intro hg;try simp only [hg,ct,Bt]
        exact pm
       apply u_guard
       ·exact GC.cf _ _
       ·intro hg;exact pf th27 th22 hb2
       apply u_guard
       ·exact GC.cf _ _
       ·intro hg;try simp only [hg,ct,Bt]
        exact pl th22 hb2
       apply u_guard
       ·exact GC.cf _ _
       ·intro hg;try simp only [hg,ct,Bt]
        refine o_pcall (s128 ns) rfl ⟨rfl,rfl,rfl⟩
       apply u_guard
       ·exact GC.cf _ _
       ·intro hg;try simp only [hg,ct,Bt]
        exact pN
       apply gT
       ·rfl
       ·intro hg;try simp only [hg,ct,Bt]
        exact pO
       refine uA ?_;refine ua ?_;refine u_nil ?_;refine wc (fun hc22=>?_) (fun hc22=>?_) <;> try simp only [Q0,Q1,Q2,Q3,Q4,Q5,Q6,Q7,Q8,ge_iff_le,gt_iff_lt] at hc22
       ·
        refine wr (ua (u_nil (WP.ret ?_)));refine ret_ok rfl ?_ (by omega) (fun t ht=>(hk2 t (by omega)));clear hK6 hK10;refine congrArg D.bool ?_;have e1:=encVs_length xs;clear hbd ih hv;rw [Bool.eq_iff_iff];have hkd:kd < 1∨7 < kd∨kd=1∨kd=2∨kd=3∨kd=4∨kd=5∨kd=6∨kd=7:=by omega
        rcases hkd with h | h | rfl | rfl | rfl | rfl | rfl | rfl | rfl <;> simp_all [mayV,maysV_all,kindOk,namesV]
        all_goals grind
       ·
        refine WP.skip (hK6 _ (wr (uf th27 th25 hb2 ?_)));refine ul th25 hb2 ?_;refine u_step (o_scall (s129 xs 130 [] [] (fun x=>!mayV x) (fun x hx=>s130 x (ih x (by obtain ⟨j,hj,rfl⟩:=List.mem_iff_getElem.1 hx;exact items_lt' hj hv)) _ _)) rfl ?_);refine uN (ua (u_nil (WP.ret ?_)));refine ret_ok rfl ?_ (by omega) (fun t ht=>(hk2 t (by omega)));clear hK6 hK10;refine congrArg D.bool ?_;have e1:=encVs_length xs;clear hbd ih hv;rw [Bool.eq_iff_iff];have hkd:kd < 1∨7 < kd∨kd=1∨kd=2∨kd=3∨kd=4∨kd=5∨kd=6∨kd=7:=by omega
        rcases hkd with h | h | rfl | rfl | rfl | rfl | rfl | rfl | rfl <;> simp_all [mayV,maysV_all,kindOk,namesV]
        all_goals grind
   ·
    refine wr (uf th27 th3 hb2 ?_);refine ul th3 hb2 ?_;refine ub (um ?_);apply gT
    ·rfl
    ·intro hg;exact pm
    apply gT
    ·rfl
    ·intro hg;try simp only [hg,ct,Bt]
     exact pN
    refine uA ?_;refine ua ?_;refine u_nil ?_;refine wc (fun hc26=>?_) (fun hc26=>?_) <;> try simp only [Q0,Q1,Q2,Q3,Q4,Q5,Q6,Q7,Q8,ge_iff_le,gt_iff_lt] at hc26
    ·
     refine WP.skip ?_;refine hK10 _ ?_;refine wc (fun hc27=>?_) (fun hc27=>?_) <;> try simp only [Q0,Q1,Q2,Q3,Q4,Q5,Q6,Q7,Q8,ge_iff_le,gt_iff_lt] at hc27
     ·
      refine wr (ua (u_nil (WP.ret ?_)));refine ret_ok rfl ?_ (by omega) (fun t ht=>(hk2 t (by omega)));clear hK6 hK10;refine congrArg D.bool ?_;have e1:=encVs_length xs;clear hbd ih hv;rw [Bool.eq_iff_iff];have hkd:kd < 1∨7 < kd∨kd=1∨kd=2∨kd=3∨kd=4∨kd=5∨kd=6∨kd=7:=by omega
      rcases hkd with h | h | rfl | rfl | rfl | rfl | rfl | rfl | rfl <;> simp_all [mayV,maysV_all,kindOk,namesV]
      all_goals grind
     ·
      refine wr (uf th27 th3 hb2 ?_);refine ul th3 hb2 ?_;refine ub (um ?_);apply gT
      ·rfl
      ·intro hg;exact pf th27 th3 hb2
      apply gT
      ·rfl
      ·intro hg;try simp only [hg,ct,Bt]
       exact pl th3 hb2
      apply gT
      ·rfl
      ·intro hg;try simp only [hg,ct,Bt]
       exact pb
      refine uA (um ?_);apply gT
      ·rfl
      ·intro hg;exact pf th27 th3 hb2
      apply gT
      ·rfl
      ·intro hg;try simp only [hg,ct,Bt]
       exact pl th3 hb2
      apply gT
      ·rfl
      ·intro hg;try simp only [hg,ct,Bt]
       exact pb
      refine uA ?_;refine ua ?_;refine u_nil ?_;refine wc (fun hc30=>?_) (fun hc30=>?_) <;> try simp only [Q0,Q1,Q2,Q3,Q4,Q5,Q6,Q7,Q8,ge_iff_le,gt_iff_lt] at hc30
      ·
       refine wr (ua (u_nil (WP.ret ?_)));refine ret_ok rfl ?_ (by omega) (fun t ht=>(hk2 t (by omega)));clear hK6 hK10;refine congrArg D.bool ?_;have e1:=encVs_length xs;clear hbd ih hv;rw [Bool.eq_iff_iff];have hkd:kd < 1∨7 < kd∨kd=1∨kd=2∨kd=3∨kd=4∨kd=5∨kd=6∨kd=7:=by omega
       rcases hkd with h | h | rfl | rfl | rfl | rfl | rfl | rfl | rfl <;> simp_all [mayV,maysV_all,kindOk,namesV]
       all_goals grind
      ·
       refine wr (uf th27 th3 hb2 ?_);refine ul th3 hb2 ?_;refine ub (um ?_);apply gT
       ·rfl
       ·intro hg;exact pf th27 th22 hb2
       apply gT
       ·rfl
       ·intro hg;try simp only [hg,ct,Bt]
        exact pl th22 hb2
       apply gT
       ·rfl
       ·intro hg;try simp only [hg,ct,Bt]
        exact pn th22
       apply gT
       ·rfl
       ·intro hg;try simp only [hg,ct,Bt]
        exact pb
       refine uA ?_;refine ua ?_;refine u_nil ?_;refine wc (fun hc33=>?_) (fun hc33=>?_) <;> try simp only [Q0,Q1,Q2,Q3,Q4,Q5,Q6,Q7,Q8,ge_iff_le,gt_iff_lt] at hc33
       ·
        refine wr (ua (u_nil (WP.ret ?_)));refine ret_ok rfl ?_ (by omega) (fun t ht=>(hk2 t (by omega)));clear hK6 hK10;refine congrArg D.bool ?_;have e1:=encVs_length xs;clear hbd ih hv;rw [Bool.eq_iff_iff];have hkd:kd < 1∨7 < kd∨kd=1∨kd=2∨kd=3∨kd=4∨kd=5∨kd=6∨kd=7:=by omega
        rcases hkd with h | h | rfl | rfl | rfl | rfl | rfl | rfl | rfl <;> simp_all [mayV,maysV_all,kindOk,namesV]
        all_goals grind
       ·
        refine wr (uf th27 th3 hb2 ?_);refine ul th3 hb2 ?_;refine ub (um ?_);apply gT
        ·rfl
        ·intro hg;exact pf th27 th22 hb2
        apply gT
        ·rfl
        ·intro hg;try simp only [hg,ct,Bt]
         exact pl th22 hb2
        apply gT
        ·rfl
        ·intro hg;try simp only [hg,ct,Bt]
         exact pn th22
        apply gT
        ·rfl
        ·intro hg;exact pf th27 th25 hb2
        apply gT
        ·rfl
        ·intro hg;try simp only [hg,ct,Bt]
         exact pl th25 hb2
        apply gT
        ·rfl
        ·intro hg;try simp only [hg,ct,Bt]
         exact pn th25
        apply gT
        ·rfl
        ·intro hg;try simp only [hg,ct,Bt]
         exact pb
        apply gT
        ·rfl
        ·intro hg;try simp only [hg,ct,Bt]
         exact pm
        apply u_guard
        ·exact GC.cf _ _
        ·intro hg;exact pf th27 th22 hb2
        apply u_guard
        ·exact GC.cf _ _
        ·intro hg;try simp only [hg,ct,Bt]
         exact pl th22 hb2
        apply u_guard
        ·exact GC.cf _ _
        ·intro hg;try simp only [hg,ct,Bt]
         refine o_pcall (s128 ns) rfl ⟨rfl,rfl,rfl⟩
        apply u_guard
        ·exact GC.cf _ _
        ·intro hg;try simp only [hg,ct,Bt]
         exact pN
        apply gT
        ·rfl
        ·intro hg;try simp only [hg,ct,Bt]
         exact pO
        refine uA ?_;refine ua ?_;refine u_nil ?_;refine wc (fun hc36=>?_) (fun hc36=>?_) <;> try simp only [Q0,Q1,Q2,Q3,Q4,Q5,Q6,Q7,Q8,ge_iff_le,gt_iff_lt] at hc36
        ·
         refine wr (ua (u_nil (WP.ret ?_)));refine ret_ok rfl ?_ (by omega) (fun t ht=>(hk2 t (by omega)));clear hK6 hK10;refine congrArg D.bool ?_;have e1:=encVs_length xs;clear hbd ih hv;rw [Bool.eq_iff_iff];have hkd:kd < 1∨7 < kd∨kd=1∨kd=2∨kd=3∨kd=4∨kd=5∨kd=6∨kd=7:=by omega
         rcases hkd with h | h | rfl | rfl | rfl | rfl | rfl | rfl | rfl <;> simp_all [mayV,maysV_all,kindOk,namesV]
         all_goals grind
        ·
         refine WP.skip (hK6 _ (wr (uf th27 th25 hb2 ?_)));refine ul th25 hb2 ?_;refine u_step (o_scall (s129 xs 130 [] [] (fun x=>!mayV x) (fun x hx=>s130 x (ih x (by obtain ⟨j,hj,rfl⟩:=List.mem_iff_getElem.1 hx;exact items_lt' hj hv)) _ _)) rfl ?_);refine uN (ua (u_nil (WP.ret ?_)));refine ret_ok rfl ?_ (by omega) (fun t ht=>(hk2 t (by omega)));clear hK6 hK10;refine congrArg D.bool ?_;have e1:=encVs_length xs;clear hbd ih hv;rw [Bool.eq_iff_iff];have hkd:kd < 1∨7 < kd∨kd=1∨kd=2∨kd=3∨kd=4∨kd=5∨kd=6∨kd=7:=by omega
         rcases hkd with h | h | rfl | rfl | rfl | rfl | rfl | rfl | rfl <;> simp_all [mayV,maysV_all,kindOk,namesV]
         all_goals grind
    ·
     refine WP.reg tabOk rfl ?_;refine uf th27 th9 hb2 ?_;refine ul th9 hb2 ?_;refine u_step (o_bin_str rfl (show _=SV.d (.str []) from rfl) rfl ?_);refine um ?_;apply gT
     ·rfl
     ·intro hg;exact pm
     apply gT
     ·rfl
     ·intro hg;try simp only [hg,ct,Bt]
      exact pN
     refine uA ?_;refine ua ?_;refine u_nil ?_;refine hK10 _ ?_;refine wc (fun hc39=>?_) (fun hc39=>?_) <;> try simp only [Q0,Q1,Q2,Q3,Q4,Q5,Q6,Q7,Q8,ge_iff_le,gt_iff_lt] at hc39
     ·
      refine wr (ua (u_nil (WP.ret ?_)));refine ret_ok rfl ?_ (by omega) (fun t ht=>(hk2 t (by omega)));clear hK6 hK10;refine congrArg D.bool ?_;have e1:=encVs_length xs;clear hbd ih hv;rw [Bool.eq_iff_iff];have hkd:kd < 1∨7 < kd∨kd=1∨kd=2∨kd=3∨kd=4∨kd=5∨kd=6∨kd=7:=by omega
      rcases hkd with h | h | rfl | rfl | rfl | rfl | rfl | rfl | rfl <;> simp_all [mayV,maysV_all,kindOk,namesV]
      all_goals grind
     ·
      refine wr (uf th27 th3 hb2 ?_);refine ul th3 hb2 ?_;refine ub (um ?_);apply gT
      ·rfl
      ·intro hg;exact pf th27 th3 hb2
      apply gT
      ·rfl
      ·intro hg;try simp only [hg,ct,Bt]
       exact pl th3 hb2
      apply gT
      ·rfl
      ·intro hg;try simp only [hg,ct,Bt]
       exact pb
      refine uA (um ?_);apply gT
      ·rfl
      ·intro hg;exact pf th27 th3 hb2
      apply gT
      ·rfl
      ·intro hg;try simp only [hg,ct,Bt]
       exact pl th3 hb2
      apply gT
      ·rfl
      ·intro hg;try simp only [hg,ct,Bt]
       exact pb
      refine uA ?_;refine ua ?_;refine u_nil ?_;refine wc (fun hc42=>?_) (fun hc42=>?_) <;> try simp only [Q0,Q1,Q2,Q3,Q4,Q5,Q6,Q7,Q8,ge_iff_le,gt_iff_lt] at hc42
      ·
       refine wr (ua (u_nil (WP.ret ?_)));refine ret_ok rfl ?_ (by omega) (fun t ht=>(hk2 t (by omega)));clear hK6 hK10;refine congrArg D.bool ?_;have e1:=encVs_length xs;clear hbd ih hv;rw [Bool.eq_iff_iff];have hkd:kd < 1∨7 < kd∨kd=1∨kd=2∨kd=3∨kd=4∨kd=5∨kd=6∨kd=7:=by omega
       rcases hkd with h | h | rfl | rfl | rfl | rfl | rfl | rfl | rfl <;> simp_all [mayV,maysV_all,kindOk,namesV]
       all_goals grind
      ·
       refine wr (uf th27 th3 hb2 ?_);refine ul th3 hb2 ?_;refine ub (um ?_);apply gT
       ·rfl
       ·intro hg;exact pf th27 th22 hb2
       apply gT
       ·rfl
       ·intro hg;try simp only [hg,ct,Bt]
        exact pl th22 hb2
       apply gT
       ·rfl
       ·intro hg;try simp only [hg,ct,Bt]
        exact pn th22
       apply gT
       ·rfl
       ·intro hg;try simp only [hg,ct,Bt]
        exact pb
       refine uA ?_;refine ua ?_;refine u_nil ?_;refine wc (fun hc45=>?_) (fun hc45=>?_) <;> try simp only [Q0,Q1,Q2,Q3,Q4,Q5,Q6,Q7,Q8,ge_iff_le,gt_iff_lt] at hc45
       ·
        refine wr (ua (u_nil (WP.ret ?_)));refine ret_ok rfl ?_ (by omega) (fun t ht=>(hk2 t (by omega)));clear hK6 hK10;refine congrArg D.bool ?_;have e1:=encVs_length xs;clear hbd ih hv;rw [Bool.eq_iff_iff];have hkd:kd < 1∨7 < kd∨kd=1∨kd=2∨kd=3∨kd=4∨kd=5∨kd=6∨kd=7:=by omega
        rcases hkd with h | h | rfl | rfl | rfl | rfl | rfl | rfl | rfl <;> simp_all [mayV,maysV_all,kindOk,namesV]
        all_goals grind
       ·
        refine wr (uf th27 th3 hb2 ?_);refine ul th3 hb2 ?_;refine ub (um ?_);apply gT
        ·rfl
        ·intro hg;exact pf th27 th22 hb2
        apply gT
        ·rfl
        ·intro hg;try simp only [hg,ct,Bt]
         exact pl th22 hb2
        apply gT
        ·rfl
        ·intro hg;try simp only [hg,ct,Bt]
         exact pn th22
        apply gT
        ·rfl
        ·intro hg;exact pf th27 th25 hb2
        apply gT
        ·rfl
        ·intro hg;try simp only [hg,ct,Bt]
         exact pl th25 hb2
        apply gT
        ·rfl
        ·intro hg;try simp only [hg,ct,Bt]
         exact pn th25
        apply gT
        ·rfl
        ·intro hg;try simp only [hg,ct,Bt]
         exact pb
        apply gT
        ·rfl
        ·intro hg;try simp only [hg,ct,Bt]
         exact pm
        apply u_guard
        ·exact GC.cf _ _
        ·intro hg;exact pf th27 th22 hb2
        apply u_guard
        ·exact GC.cf _ _
        ·intro hg;try simp only [hg,ct,Bt]
         exact pl th22 hb2
        apply u_guard
        ·exact GC.cf _ _
        ·intro hg;try simp only [hg,ct,Bt]
         refine o_pcall (s128 ns) rfl ⟨rfl,rfl,rfl⟩
        apply u_guard
        ·exact GC.cf _ _
        ·intro hg;try simp only [hg,ct,Bt]
         exact pN
        apply gT
        ·rfl
        ·intro hg;try simp only [hg,ct,Bt]
         exact pO
        refine uA ?_;refine ua ?_;refine u_nil ?_;refine wc (fun hc48=>?_) (fun hc48=>?_) <;> try simp only [Q0,Q1,Q2,Q3,Q4,Q5,Q6,Q7,Q8,ge_iff_le,gt_iff_lt] at hc48
        ·
         refine wr (ua (u_nil (WP.ret ?_)));refine ret_ok rfl ?_ (by omega) (fun t ht=>(hk2 t (by omega)));clear hK6 hK10;refine congrArg D.bool ?_;have e1:=encVs_length xs;clear hbd ih hv;rw [Bool.eq_iff_iff];have hkd:kd < 1∨7 < kd∨kd=1∨kd=2∨kd=3∨kd=4∨kd=5∨kd=6∨kd=7:=by omega
         rcases hkd with h | h | rfl | rfl | rfl | rfl | rfl | rfl | rfl <;> simp_all [mayV,maysV_all,kindOk,namesV]
         all_goals grind
        ·
         refine WP.skip (hK6 _ (wr (uf th27 th25 hb2 ?_)));refine ul th25 hb2 ?_;refine u_step (o_scall (s129 xs 130 [] [] (fun x=>!mayV x) (fun x hx=>s130 x (ih x (by obtain ⟨j,hj,rfl⟩:=List.mem_iff_getElem.1 hx;exact items_lt' hj hv)) _ _)) rfl ?_);refine uN (ua (u_nil (WP.ret ?_)));refine ret_ok rfl ?_ (by omega) (fun t ht=>(hk2 t (by omega)));clear hK6 hK10;refine congrArg D.bool ?_;have e1:=encVs_length xs;clear hbd ih hv;rw [Bool.eq_iff_iff];have hkd:kd < 1∨7 < kd∨kd=1∨kd=2∨kd=3∨kd=4∨kd=5∨kd=6∨kd=7:=by omega
         rcases hkd with h | h | rfl | rfl | rfl | rfl | rfl | rfl | rfl <;> simp_all [mayV,maysV_all,kindOk,namesV]
         all_goals grind
theorem s76 (v:Val):PSpec Tryz.prog 76 [.d (encV v)] (.d (.bool (mayV v))):=s76A _ v (Nat.lt_succ_self _)
theorem fn140:FnOk Tryz.prog 140 20 [2] (bodyOf Tryz.f140):=⟨Tryz.f140,Tryz.func140,by kernel_rfl,by decide,by kernel_rfl,by kernel_rfl⟩
theorem s140 (u:Nat) (hu:u < 18446744073709551616):RSpec Tryz.prog 140 [.d (.int .u64 u)] 5 1 (bytesD (grp u)):=by
 refine RSpec.of fn140 (by simp) fun o nk=>?_;refine WP.seq fun K1 hK1=>?_;refine WP.reg tabOk rfl ?_;refine u_step (o_assign rfl ?_);refine u_nil (hK1 _ (WP.seq fun K3 hK3=>?_));refine WP.reg tabOk rfl ?_;refine u_step (o_assign rfl ?_);refine u_nil (hK3 _ (WP.seq fun K2 hK2=>?_));refine WP.block ?_;refine WP.loopL (ι:=Nat×Str×SV×(Nat→Option AO)×Nat) (fun ⟨m,acc,c,o2,nk2⟩=>⟨al [(0,.d (.int .u64 m)),(3,c)],o2,nk2⟩)
  (fun ⟨m,acc,c,o2,nk2⟩=>acc++grp m=grp u∧m≤u∧nk≤nk2∧(∃ q,dstOf o2 5 1 c=some (q,bytesD acc)∧∀ t,q=some t→nk≤t∧t < nk2)∧∀ t,t < nk→o2 t=o t)
  (fun ⟨m,_,_,_,_⟩=>m) (fun ⟨m,acc,c,o2,nk2⟩ hA=>?_) (u,[],.d .nil,o,nk) ?_ ?_
 ·obtain ⟨hac,hm,hnk,⟨q,hd,hq⟩,hfr⟩:=hA;have hlen:acc.length+(grp m).length=(grp u).length:=by rw [← hac];simp
  have hgl:(grp u).length≤10:=grp_len 10 u (by omega) (by omega);have hgm:1≤(grp m).length:=by
   by_cases h:m < 128
   ·rw [grp_lt h];simp
   ·rw [grp_ge h];simp
  refine WP.seq fun K4 hK4=>?_;refine WP.seq fun K5 hK5=>?_;refine WP.reg tabOk rfl ?_;refine u_step (o_move rfl ?_);refine u_step (o_bin_int rfl rfl (by decide) rfl ?_);refine u_nil (hK5 _ ?_);refine WP.cond rfl (fun hc=>?_) (fun hc=>?_)
  ·simp only [decide_eq_true_eq] at hc;have hge:¬ m < 128:=by omega
   refine WP.skip (hK4 _ (WP.block (WP.seq fun K6 hK6=>?_)));refine WP.reg tabOk rfl ?_;refine u_step (o_moveV (v:=c) rfl ?_);refine u_step (o_move rfl ?_);refine u_step (o_bin_int rfl rfl (by decide) rfl ?_);refine u_step (o_cv_int rfl th126 th5 rfl ?_);refine u_step (o_bin_int rfl rfl (by decide) rfl ?_);refine u_step (o_bs rfl th52 rfl th5 rfl rfl (by decide) rfl (by decide) (by decide) ?_);refine u_step (g_apD (q:=q) (xs:=bytesD acc) (show dstOf _ _ _ (ev _ _)=_ from hd) rfl th52 rfl th5 rfl rfl (by decide) rfl (by rw [bytesD_length];simp;omega) (by rw [bytesD_length];simp;omega) fun o3 hb hk=>?_);refine uS (u_nil (hK6 _ (WP.reg tabOk rfl ?_)));refine u_step (o_move rfl ?_);refine u_step (o_bin_int rfl rfl (by decide) rfl ?_);refine u_step (o_assign rfl ?_);refine u_nil ?_;have hv:IntKind.u8.wrap (IntKind.u8.wrap ((m:Int).tmod 128)+128)=((UInt8.ofNat (m % 128+128)).toNat:Int):=by
    rw [wrap_u8,wrap_u8];have:(m:Int).tmod 128=((m % 128:Nat):Int):=by rw [Int.tmod_eq_emod_of_nonneg (by omega)];omega
    rw [this];simp
   have hv2:IntKind.u64.wrap ((m:Int).tdiv 128)=((m / 128:Nat):Int):=by
    rw [Int.tdiv_eq_ediv_of_nonneg (by omega),wrap_u64 (by omega) (by omega)];omega
   refine ⟨(m / 128,acc++[UInt8.ofNat (m % 128+128)],.row nk2,o3,nk2+1),⟨?_,by omega,by omega,⟨some nk2,?_,?_⟩,?_⟩,by simp only;omega,?_⟩
   ·rw [← hac,grp_ge hge];simp
   ·rw [← bytesD_snoc,← hv];exact dst_row hb
   ·intro t ht;injection ht with ht;omega
   ·intro t ht;rw [hk t (by omega) (fun e=>by have:=hq t e.symm;omega),hfr t ht]
   ·refine Le.al ?_;simp only [List.forall_mem_cons];exact ⟨(by rw [← hv2];rfl),rfl,by simp⟩
  ·simp only [decide_eq_false_iff_not] at hc;have hlt:m < 128:=by omega
   refine WP.exit ?_;refine hK2 _ (WP.seq fun K6 hK6=>?_);refine WP.reg tabOk rfl ?_;refine u_step (o_moveV (v:=c) rfl ?_);refine u_step (o_move rfl ?_);refine u_step (o_cv_int rfl th126 th5 rfl ?_);refine u_step (o_bs rfl th52 rfl th5 rfl rfl (by decide) rfl (by decide) (by decide) ?_);refine u_step (g_apD (q:=q) (xs:=bytesD acc) (show dstOf _ _ _ (ev _ _)=_ from hd) rfl th52 rfl th5 rfl rfl (by decide) rfl (by rw [bytesD_length];simp;omega) (by rw [bytesD_length];simp;omega) fun o3 hb hk=>?_);refine uS (u_nil (hK6 _ (WP.ret ?_)));have hv:IntKind.u8.wrap (m:Int)=((UInt8.ofNat m).toNat:Int):=by rw [wrap_u8];simp
   refine rrow_ok rfl (by omega) (by omega) ?_ ?_
   ·rw [← hac,grp_lt hlt,← bytesD_snoc,← hv];exact hb
   ·intro t ht;rw [hk t (by omega) (fun e=>by have:=hq t e.symm;omega),hfr t ht]
 ·exact ⟨by simp,by omega,by omega,⟨none,rfl,by simp⟩,fun _ _=>rfl⟩
 ·refine Le.al ?_;simp only [List.forall_mem_cons];exact ⟨rfl,rfl,by simp⟩
def u64 (m:Int):Nat:=(m % 18446744073709551616).toNat
theorem u64_lt (m:Int):u64 m < 18446744073709551616:=by unfold u64;omega
theorem u64_wrap (m:Int):IntKind.u64.wrap m=(u64 m:Int):=by
 simp only [IntKind.wrap,IntKind.bits,IntKind.signed,u64];simp;omega
theorem s140w (m:Int):RSpec Tryz.prog 140 [.d (.int .u64 (IntKind.u64.wrap m))] 5 1 (bytesD (grp (u64 m))):=by
 rw [u64_wrap];exact s140 _ (u64_lt m)
def zigN (x:Int):Nat:=if 0≤x then u64 (2 * u64 x) else u64 (2 * u64 (-(x+1))+1)
theorem fn88:FnOk Tryz.prog 88 6 [2] (bodyOf Tryz.f88):=⟨Tryz.f88,Tryz.func88,by kernel_rfl,by decide,by kernel_rfl,by kernel_rfl⟩
theorem s88 (n:Int):RSpec Tryz.prog 88 [.d (.int .i64 n)] 5 1 (bytesD (grp (u64 n))):=by
 refine RSpec.of fn88 (by simp) fun o nk=>?_;refine wr (ua (u_nil (wr (um (uc th3 th126 ?_)))));refine u_step (o_rcall (s140w n) rfl fun q3 o3 nk3 hqa3 hqb3 hb3 hk3=>?_);refine uS (u_nil (WP.ret ?_));refine rrow_ok rfl (by omega) (by omega) ?_ (fun t ht=>(hk3 t (by omega)));exact hb3
theorem fn89:FnOk Tryz.prog 89 9 [2] (bodyOf Tryz.f89):=⟨Tryz.f89,Tryz.func89,by kernel_rfl,by decide,by kernel_rfl,by kernel_rfl⟩
theorem s89 (s:Str) (hs:s.length≤70368744177664):RSpec Tryz.prog 89 [.d (.str s)] 5 1 (bytesD (grp (u64 s.length)++s)):=by
 have hgl:(grp (u64 s.length)).length≤10:=grp_len 10 _ (by have:=u64_lt s.length;omega) (by omega);refine RSpec.of fn89 (by simp) fun o nk=>?_;refine wr (ua (u_nil (wr (um ?_))));refine u_step (o_len_str rfl th9 rfl ?_);refine u_step (o_rcall (s88 _) rfl fun q3 o3 nk3 hqa3 hqb3 hb3 hk3=>?_);refine um ?_;refine u_step (o_cv_bytes rfl th9 rfl th52 rfl th5 rfl ?_ ?_)
 ·first | assumption | omega
 refine u_step (g_ap rfl rfl th52 rfl th5 rfl rfl (by decide) rfl hb3 (by simp only [bytesD_length];omega) (by simp only [bytesD_length];omega) fun o4 hb4 hk4=>?_);refine uS (u_nil (WP.ret ?_));refine rrow_ok rfl (by omega) (by omega) ?_ (fun t ht=>(hk4 t (by omega) (by omega)).trans ((hk3 t (by omega))));simpa [bytesD] using hb4
theorem fn170:FnOk Tryz.prog 170 14 [2] (bodyOf Tryz.f170):=⟨Tryz.f170,Tryz.func170,by kernel_rfl,by decide,by kernel_rfl,by kernel_rfl⟩
theorem s170 (x:Int) (h1:-9223372036854775808≤x) (h2:x≤9223372036854775807):PSpec Tryz.prog 170 [.d (.int .i64 x)] (.d (.int .u64 (zigN x:Int))):=by
 refine PSpec.of fn170 (by simp) fun o nk=>?_;refine wr ?_;refine ua ?_;refine u_nil ?_;refine WP.seq fun K2 hK2=>?_;refine wr ?_;refine um ?_;refine ub ?_;refine u_nil ?_;refine wc (fun hc4=>?_) (fun hc4=>?_) <;> try simp only [Q0,Q1,Q2,Q3,Q4,Q5,Q6,Q7,Q8,ge_iff_le,gt_iff_lt] at hc4
 ·
  refine wr (um (uc th3 th126 ?_));refine ub (ua (u_nil (WP.ret ?_)));refine ret_ok rfl ?_ (by omega) (fun _ _=>rfl);refine congrArg (D.int .u64) ?_;rw [zigN,if_pos hc4,u64_wrap x,u64_wrap]
 ·
  refine WP.skip (hK2 _ (wr (um (ub ?_))));refine u_step (o_un rfl rfl ?_);refine uc th3 th126 ?_;refine ub (ub (ua (u_nil (WP.ret ?_))));refine ret_ok rfl ?_ (by omega) (fun _ _=>rfl);refine congrArg (D.int .u64) ?_;have e1:IntKind.i64.wrap (x+1)=x+1:=wrap_i64 (by omega) (by omega);have e2:IntKind.i64.wrap (0 - (x+1))=-(x+1):=by rw [wrap_i64 (by omega) (by omega)];omega
  rw [zigN,if_neg hc4,e1,e2];simp only [u64_wrap,u64];omega
theorem fn141:FnOk Tryz.prog 141 6 [2] (bodyOf Tryz.f141):=⟨Tryz.f141,Tryz.func141,by kernel_rfl,by decide,by kernel_rfl,by kernel_rfl⟩
theorem s141 (x:Int) (h1:-9223372036854775808≤x) (h2:x≤9223372036854775807):RSpec Tryz.prog 141 [.d (.int .i64 x)] 5 1 (bytesD (grp (zigN x))):=by
 refine RSpec.of fn141 (by simp) fun o nk=>?_;refine wr ?_;refine ua ?_;refine u_nil ?_;refine wr ?_;refine um ?_;refine u_step (o_pcall (s170 x h1 h2) rfl ?_);refine u_step (o_rcall (s140 (zigN x) (by unfold zigN;split <;> exact u64_lt _)) rfl fun q3 o3 nk3 hqa3 hqb3 hb3 hk3=>?_);refine uS ?_;refine u_nil ?_;refine WP.ret ?_;refine rrow_ok rfl (by omega) (by omega) ?_ (fun t ht=>(hk3 t (by omega)));exact hb3
theorem or128 (m:Nat):bitsOf .or .u8 (IntKind.u8.wrap (m:Int)) 128=((UInt8.ofNat (m % 128+128)).toNat:Int):=by
 have h1:∀ b:BitVec 8,(b ||| 128#8).toNat=b.toNat % 128+128:=by decide
 have e:bitsOf .or .u8 (IntKind.u8.wrap (m:Int)) 128=IntKind.u8.wrap ((BitVec.ofInt 8 (IntKind.u8.wrap (m:Int)) ||| 128#8).toNat:Int):=rfl;rw [e,wrap_u8,wrap_u8,h1];simp;omega
theorem fn138:FnOk Tryz.prog 138 20 [4] (bodyOf Tryz.f138):=⟨Tryz.f138,Tryz.func138,by kernel_rfl,by decide,by kernel_rfl,by kernel_rfl⟩
theorem s138 (u:Nat) (hu:u < 18446744073709551616):RSpec Tryz.prog 138 [.d .nil,.d (.int .u64 u)] 5 1 (bytesD (grp u)):=by
 refine RSpec.of fn138 (by simp) fun o nk=>?_;refine WP.seq fun K1 hK1=>?_;refine WP.reg tabOk rfl ?_;refine u_step (o_assign rfl ?_);refine u_nil (hK1 _ (WP.seq fun K2 hK2=>?_));refine WP.block ?_;refine WP.loopL (ι:=Nat×Str×SV×(Nat→Option AO)×Nat) (fun ⟨m,acc,c,o2,nk2⟩=>⟨al [(1,.d (.int .u64 m)),(0,c)],o2,nk2⟩)
  (fun ⟨m,acc,c,o2,nk2⟩=>acc++grp m=grp u∧m≤u∧nk≤nk2∧(∃ q,dstOf o2 5 1 c=some (q,bytesD acc)∧∀ t,q=some t→nk≤t∧t < nk2)∧∀ t,t < nk→o2 t=o t)
  (fun ⟨m,_,_,_,_⟩=>m) (fun ⟨m,acc,c,o2,nk2⟩ hA=>?_) (u,[],.d .nil,o,nk) ?_ ?_
 ·obtain ⟨hac,hm,hnk,⟨q,hd,hq⟩,hfr⟩:=hA;have hlen:acc.length+(grp m).length=(grp u).length:=by rw [← hac];simp
  have hgl:(grp u).length≤10:=grp_len 10 u (by omega) (by omega);have hgm:1≤(grp m).length:=by
   by_cases h:m < 128
   ·rw [grp_lt h];simp
   ·rw [grp_ge h];simp
  refine WP.seq fun K4 hK4=>?_;refine WP.seq fun K5 hK5=>?_;refine WP.reg tabOk rfl ?_;refine u_step (o_move rfl ?_);refine u_step (o_bin_int rfl rfl (by decide) rfl ?_);refine u_nil (hK5 _ ?_);refine WP.cond rfl (fun hc=>?_) (fun hc=>?_)
  ·simp only [decide_eq_true_eq] at hc;have hge:¬ m < 128:=by omega
   refine WP.skip (hK4 _ (WP.seq fun K6 hK6=>?_));refine WP.block (WP.reg tabOk rfl ?_);refine u_step (o_moveV (v:=c) rfl ?_);refine u_step (o_move rfl ?_);refine u_step (o_cv_int rfl th126 th5 rfl ?_);refine u_step (o_bin_int rfl rfl (by decide) rfl ?_);refine u_step (o_bs rfl th52 rfl th5 rfl rfl (by decide) rfl (by decide) (by decide) ?_);refine u_step (g_apD (q:=q) (xs:=bytesD acc) (show dstOf _ _ _ (ev _ _)=_ from hd) rfl th52 rfl th5 rfl rfl (by decide) rfl (by rw [bytesD_length];simp;omega) (by rw [bytesD_length];simp;omega) fun o3 hb hk=>?_);refine uS (u_nil (hK6 _ (WP.reg tabOk rfl ?_)));refine u_step (o_move rfl ?_);refine u_step (o_bin_sh rfl rfl rfl ?_);refine u_step (o_assign rfl ?_);refine u_nil ?_;have hv2:(m:Int).fdiv (2 ^ min (7:Int).toNat IntKind.u64.bits)=((m / 128:Nat):Int):=by
    show (m:Int).fdiv 128=_;rw [Int.fdiv_eq_ediv_of_nonneg _ (by omega)];omega
   refine ⟨(m / 128,acc++[UInt8.ofNat (m % 128+128)],.row nk2,o3,nk2+1),⟨?_,by omega,by omega,⟨some nk2,?_,?_⟩,?_⟩,by simp only;omega,?_⟩
   ·rw [← hac,grp_ge hge];simp
   ·rw [← bytesD_snoc,← or128];exact dst_row hb
   ·intro t ht;injection ht with ht;omega
   ·intro t ht;rw [hk t (by omega) (fun e=>by have:=hq t e.symm;omega),hfr t ht]
   ·refine Le.al ?_;simp only [List.forall_mem_cons];exact ⟨(by rw [← hv2];rfl),rfl,by simp⟩
  ·simp only [decide_eq_false_iff_not] at hc;have hlt:m < 128:=by omega
   refine WP.exit ?_;refine hK2 _ (WP.seq fun K6 hK6=>?_);refine WP.reg tabOk rfl ?_;refine u_step (o_moveV (v:=c) rfl ?_);refine u_step (o_move rfl ?_);refine u_step (o_cv_int rfl th126 th5 rfl ?_);refine u_step (o_bs rfl th52 rfl th5 rfl rfl (by decide) rfl (by decide) (by decide) ?_);refine u_step (g_apD (q:=q) (xs:=bytesD acc) (show dstOf _ _ _ (ev _ _)=_ from hd) rfl th52 rfl th5 rfl rfl (by decide) rfl (by rw [bytesD_length];simp;omega) (by rw [bytesD_length];simp;omega) fun o3 hb hk=>?_);refine uS (u_nil (hK6 _ (WP.ret ?_)));have hv:IntKind.u8.wrap (m:Int)=((UInt8.ofNat m).toNat:Int):=by rw [wrap_u8];simp
   refine rrow_ok rfl (by omega) (by omega) ?_ ?_
   ·rw [← hac,grp_lt hlt,← bytesD_snoc,← hv];exact hb
   ·intro t ht;rw [hk t (by omega) (fun e=>by have:=hq t e.symm;omega),hfr t ht]
 ·exact ⟨by simp,by omega,by omega,⟨none,rfl,by simp⟩,fun _ _=>rfl⟩
 ·refine Le.al ?_;simp only [List.forall_mem_cons];exact ⟨rfl,rfl,by simp⟩
theorem xor_zig {x:Int} (h1:-9223372036854775808≤x) (h2:x≤9223372036854775807) :
    bitsOf .xor .u64 (IntKind.u64.wrap (IntKind.u64.wrap x * 2 ^ min (1:Int).toNat IntKind.u64.bits)) (IntKind.u64.wrap (x.fdiv (2 ^ min (63:Int).toNat IntKind.i64.bits)))=(zigN x:Int):=by
  have e0:IntKind.u64.wrap x * 2 ^ min (1:Int).toNat IntKind.u64.bits=2 * IntKind.u64.wrap x:=by
    show IntKind.u64.wrap x * 2=_;omega
  have e1:x.fdiv (2 ^ min (63:Int).toNat IntKind.i64.bits)=if 0≤x then 0 else -1:=by
    show x.fdiv 9223372036854775808=_;rw [Int.fdiv_eq_ediv_of_nonneg _ (by omega)];split <;> omega
  have e2:∀ a b:Int,bitsOf .xor .u64 a b=IntKind.u64.wrap ((BitVec.ofInt 64 a ^^^ BitVec.ofInt 64 b).toNat:Int):=fun _ _=>rfl;rw [e0,e1,e2];by_cases h:0≤x
  · rw [if_pos h];have hz:BitVec.ofInt 64 (IntKind.u64.wrap 0)=0#64:=rfl;rw [hz,BitVec.xor_zero,BitVec.toNat_ofInt,zigN,if_pos h];simp only [u64_wrap,u64];omega
  · rw [if_neg h];have hz:BitVec.ofInt 64 (IntKind.u64.wrap (-1))=BitVec.allOnes 64:=by decide
    rw [hz,BitVec.xor_allOnes,BitVec.toNat_not,BitVec.toNat_ofInt,zigN,if_neg h];simp only [u64_wrap,u64];omega
theorem s138x {x:Int} (h1:-9223372036854775808≤x) (h2:x≤9223372036854775807) :
    RSpec Tryz.prog 138 [.d .nil,.d (.int .u64 (bitsOf .xor .u64 (IntKind.u64.wrap (IntKind.u64.wrap x * 2 ^ min (1:Int).toNat IntKind.u64.bits)) (IntKind.u64.wrap (x.fdiv (2 ^ min (63:Int).toNat IntKind.i64.bits)))))] 5 1 (bytesD (grp (zigN x))):=by
  rw [xor_zig h1 h2];exact s138 (zigN x) (by unfold zigN;split <;> exact u64_lt _)
theorem s138w (m:Int):RSpec Tryz.prog 138 [.d .nil,.d (.int .u64 (IntKind.u64.wrap m))] 5 1 (bytesD (grp (u64 m))):=by
 rw [u64_wrap];exact s138 _ (u64_lt m)
theorem fn169:FnOk Tryz.prog 169 11 [2] (bodyOf Tryz.f169):=⟨Tryz.f169,Tryz.func169,by kernel_rfl,by decide,by kernel_rfl,by kernel_rfl⟩
theorem s169 (x:Int) (h1:-9223372036854775808≤x) (h2:x≤9223372036854775807):RSpec Tryz.prog 169 [.d (.int .i64 x)] 5 1 (bytesD (grp (zigN x))):=by
 refine RSpec.of fn169 (by simp) fun o nk=>?_;refine wr (ua (u_nil (wr (um (uc th3 th126 ?_)))));refine u_step (o_bin_sh rfl rfl rfl ?_);refine um ?_;refine u_step (o_bin_sh rfl rfl rfl ?_);refine uc th3 th126 ?_;refine ub ?_;refine u_step (o_rcall (s138x h1 h2) rfl fun q3 o3 nk3 hqa3 hqb3 hb3 hk3=>?_);refine uS (u_nil (WP.ret ?_));refine rrow_ok rfl (by omega) (by omega) ?_ (fun t ht=>(hk3 t (by omega)));exact hb3
theorem fn137:FnOk Tryz.prog 137 13 [2,3] (bodyOf Tryz.f137):=⟨Tryz.f137,Tryz.func137,by kernel_rfl,by decide,by kernel_rfl,by kernel_rfl⟩
theorem s137 (n:Int) (h1:0≤n) (h2:n≤4611686018427387904):RDSpec Tryz.prog 137 [.d (.int .i64 n)] 5 1 (bytesD (grp (u64 n))) (.int .i64 0):=by
 refine RDSpec.of fn137 (by simp) fun o nk=>?_;refine wr (ua (ua (u_nil (WP.seq fun K2 hK2=>?_))));refine wr (um (ub (um ?_)));apply gF
 ·rfl
 ·intro hg;exact pm
 apply gF
 ·rfl
 ·intro hg;try simp only [hg,ct,Bt]
  exact pb
 refine uO ?_;refine u_nil ?_;refine wc (fun hc4=>?_) (fun hc4=>?_) <;> try simp only [Q0,Q1,Q2,Q3,Q4,Q5,Q6,Q7,Q8,ge_iff_le,gt_iff_lt] at hc4
 ·
  exfalso;simp at hc4;omega
 ·
  refine WP.skip (hK2 _ (wr (um (uc th3 th126 ?_))));refine u_step (o_rcall (s138w n) rfl fun q6 o6 nk6 hqa6 hqb6 hb6 hk6=>?_);refine uS (ua (u_nil (WP.ret ?_)));refine rrowd_ok rfl ?_ (by omega) (by omega) ?_ (fun t ht=>(hk6 t (by omega)))
  ·rfl
  exact hb6
theorem fn187:FnOk Tryz.prog 187 12 [2] (bodyOf Tryz.f187):=⟨Tryz.f187,Tryz.func187,by kernel_rfl,by decide,by kernel_rfl,by kernel_rfl⟩
theorem s187 (n:Int) (h1:0≤n) (h2:n≤4611686018427387904):PSpec Tryz.prog 187 [.d (.int .i64 n)] (.d (.int .i64 ((grp (u64 n)).length:Int))):=by
 refine PSpec.of fn187 (by simp) fun o nk=>?_;refine wr (ua (u_nil (wr (um ?_))));refine u_step (o_rdcall (s137 n h1 h2) rfl fun q3 o3 nk3 hqa3 hqb3 hb3 hk3=>?_);refine u_step (o_moveV (v:=.tup _) rfl ?_);refine ue (ue (uS (ua (u_nil (wr (uR ?_))))));refine u_step (o_len_row rfl th52 rfl hb3 ?_);refine ua (u_nil (WP.ret ?_));refine ret_ok rfl ?_ (by omega) (fun t ht=>(hk3 t (by omega)));rw [bytesD_length]
theorem fn186:FnOk Tryz.prog 186 9 [2] (bodyOf Tryz.f186):=⟨Tryz.f186,Tryz.func186,by kernel_rfl,by decide,by kernel_rfl,by kernel_rfl⟩
theorem s186 (s:Str) (hs:s.length≤70368744177664):PSpec Tryz.prog 186 [.d (.str s)] (.d (.int .i64 (((grp (u64 s.length)).length+s.length:Nat):Int))):=by
 have hgl:(grp (u64 s.length)).length≤10:=grp_len 10 _ (by have:=u64_lt s.length;omega) (by omega);refine PSpec.of fn186 (by simp) fun o nk=>?_;refine wr (ua (u_nil (wr (um ?_))));refine u_step (o_len_str rfl th9 rfl ?_);refine u_step (o_pcall (s187 s.length (by omega) (by omega)) rfl ?_);refine um ?_;refine u_step (o_len_str rfl th9 rfl ?_);refine ub (ua (u_nil (WP.ret ?_)));refine ret_ok rfl ?_ (by omega) (fun _ _=>rfl);rw [wrap_i64 (by omega) (by omega)];simp
theorem max_i (a b:Nat):(if (a:Int) < (b:Int) then (b:Int) else (a:Int))=((max a b:Nat):Int):=by split <;> omega
theorem fn160:FnOk Tryz.prog 160 20 [2] (bodyOf Tryz.f160):=⟨Tryz.f160,Tryz.func160,by kernel_rfl,by decide,by kernel_rfl,by kernel_rfl⟩
theorem s160A (m:Nat):∀ v:Val,SizeOf.sizeOf v < m→szV v≤1099511627776→PSpec Tryz.prog 160 [.d (encV v)] (.d (.int .i64 (depthV v:Int))):=by
 induction m with
 | zero=>intros;omega
 | succ m ih=>
  rintro ⟨kd,it,tx,xs,ns⟩ hv hsz;have hsz2:1+tx.length+szVs xs+szN ns≤1099511627776:=hsz;have hxl:=szVs_len xs;have hnl:=szN_len ns;have hdp:=depths_sz xs;refine PSpec.of fn160 (by simp) fun o nk=>?_;refine wr ?_;refine u_step (g_box rfl fun o2 hb2 hk2=>?_);refine ua (u_nil (wr (ua (u_nil (WP.seq fun K4 hK4=>?_)))));refine wr (uf th27 th25 hb2 ?_);refine ul th25 hb2 ?_;refine un th25 ?_;refine um (u_nil (WP.block ?_));refine WP.loopL (ι:=Nat×(Nat→Option AO)×Nat) (fun ⟨i,o2,nk2⟩=>⟨al [(3,.d (.int .i64 (depthsV (xs.take i):Nat))),(7,.d (.sl 5 (encVs xs))),(8,.d (.int .i64 (encVs xs).length)),(9,.d (.int .i64 i))],o2,nk2⟩) (fun ⟨i,o2,nk2⟩=>i≤xs.length∧nk≤nk2∧(∀ t,t < nk→o2 t=o t)) (fun ⟨i,o2,nk2⟩=>xs.length - i) (fun ⟨i,o2,nk2⟩ hA=>?_) ⟨0,o2,(nk+1)⟩ ?_ ?_
  ·
   obtain ⟨hle,hnk,hfr⟩:=hA;refine wr ?_;refine ub ?_;refine u_nil ?_;refine WP.seq fun K7 hK7=>?_;refine wc (fun hc8=>?_) (fun hc8=>?_) <;> try simp only [Q0,Q1,Q2,Q3,Q4,Q5,Q6,Q7,Q8,ge_iff_le,gt_iff_lt] at hc8
   ·
    refine WP.skip (hK7 _ (WP.seq fun K9 hK9=>?_));refine WP.block (wr ?_)
    first | refine u_step (o_ia_map rfl rfl th25 rfl th27 rfl (by omega) ?_) | refine u_step (o_ia_vs rfl rfl th25 rfl th27 rfl (by omega) ?_)
    refine uL th27 ?_;refine u_step (g_alloc th27 rfl fun o11 hb11 hk11=>?_);refine u_step0 (g_sta rfl (congrArg SV.d (encV_eq _)) th27 rfl hb11 (by simp [valCells]) fun o12 hb12 hk12=>?_);refine u_nil (WP.reg tabOk rfl ?_);refine um (ug th27 hb12 ?_);refine u_step (o_pcall (pv (v:=xs[i]) (ih _ (by exact items_lt' (by omega) hv) (by have:=szVs_get (xs:=xs) (j:=i) (by omega);omega))) rfl ?_);refine u_step (o_mm (by decide) rfl ?_);refine ua (u_nil (hK9 _ (WP.reg tabOk rfl ?_)));refine ub (um (u_nil ?_));refine ⟨⟨i+1,o12,(nk2+1)⟩,⟨by omega,by omega,(fun t ht=>(hk12 t (by omega)).trans ((hk11 t (by omega)).trans ((hfr t (by omega)))))⟩,by simp only;omega,?_⟩;refine Le.al ?_;simp only [List.forall_mem_cons];exact ⟨(by rw [depthsV_snoc (by omega),← max_i];rfl),rfl,rfl,cnt (by omega),by simp⟩
   ·
    refine WP.exit ?_;refine hK4 _ (wr (um (ub (ua (u_nil (WP.ret ?_))))));refine ret_ok rfl ?_ (by omega) (fun t ht=>(hfr t (by omega)));refine congrArg (D.int .i64) ?_;have h0:xs.take i=xs:=List.take_of_length_le (by omega);rw [h0,wrap_succ (by omega)];rfl
  ·
   refine ⟨by simp,by omega,(fun t ht=>(hk2 t (by omega)))⟩
  ·
   refine Le.al ?_;simp only [List.forall_mem_cons];exact ⟨rfl,rfl,rfl,rfl,by simp⟩
theorem s160 (v:Val) (hsz:szV v≤1099511627776):PSpec Tryz.prog 160 [.d (encV v)] (.d (.int .i64 (depthV v:Int))):=s160A _ v (Nat.lt_succ_self _) hsz
theorem fn116:FnOk Tryz.prog 116 25 [2] (bodyOf Tryz.f116):=⟨Tryz.f116,Tryz.func116,by kernel_rfl,by decide,by kernel_rfl,by kernel_rfl⟩
theorem s116A (m:Nat):∀ v:Val,SizeOf.sizeOf v < m→szV v≤1099511627776→PSpec Tryz.prog 116 [.d (encV v)] (.d (.int .i64 (depthV v:Int))):=by
 induction m with
 | zero=>intros;omega
 | succ m ih=>
  rintro ⟨kd,it,tx,xs,ns⟩ hv hsz;have hsz2:1+tx.length+szVs xs+szN ns≤1099511627776:=hsz;have hxl:=szVs_len xs;have hnl:=szN_len ns;have hdp:=depths_sz xs;refine PSpec.of fn116 (by simp) fun o nk=>?_;refine wr ?_;refine u_step (g_box rfl fun o2 hb2 hk2=>?_);refine ua (u_nil (wr (ua (u_nil (WP.seq fun K4 hK4=>?_)))));refine wr (ua (u_nil (WP.block ?_)));refine WP.loopL (ι:=Nat) (fun i=>⟨al [(1,.loc nk 0),(3,.d (.int .i64 (depthsV (xs.take i):Nat))),(4,.d (.int .i64 i))],o2,(nk+1)⟩) (fun i=>i≤xs.length∧True) (fun i=>xs.length - i) (fun i hA=>?_) 0 ?_ ?_
  ·
   obtain ⟨hle_i,hin_i⟩:=hA;refine WP.seq fun K6 hK6=>?_;refine wr ?_;refine um ?_;refine uf th27 th25 hb2 ?_;refine ul th25 hb2 ?_;refine un th25 ?_;refine ub ?_;refine u_nil ?_;refine wc (fun hc8=>?_) (fun hc8=>?_) <;> try simp only [Q0,Q1,Q2,Q3,Q4,Q5,Q6,Q7,Q8,ge_iff_le,gt_iff_lt] at hc8
   ·
    refine WP.skip (hK6 _ (WP.seq fun K9 hK9=>?_));refine WP.block (wr (uf th27 th25 hb2 ?_));refine ul th25 hb2 ?_;refine um ?_
    first | refine u_step (o_ia_map rfl rfl th25 rfl th27 rfl (by omega) ?_) | refine u_step (o_ia_vs rfl rfl th25 rfl th27 rfl (by omega) ?_)
    refine uL th27 ?_;refine u_step (o_pcall (ih _ (by exact items_lt' (by omega) hv) (by have:=szVs_get (xs:=xs) (j:=i) (by omega);omega)) rfl ?_);refine ua ?_;refine u_nil ?_;refine wr ?_;refine um ?_;refine um ?_;refine ub ?_;refine u_nil ?_;refine wc (fun hc12=>?_) (fun hc12=>?_) <;> try simp only [Q0,Q1,Q2,Q3,Q4,Q5,Q6,Q7,Q8,ge_iff_le,gt_iff_lt] at hc12
    ·
     refine WP.reg tabOk rfl ?_;refine um (ua (u_nil (hK9 _ (WP.reg tabOk rfl ?_))));refine um (ub (ua (u_nil ?_)));refine ⟨i+1,⟨by omega,trivial⟩,by omega,?_⟩;refine Le.al ?_;simp only [List.forall_mem_cons];have hmx:=depthsV_snoc (xs:=xs) (i:=i) (by omega);refine ⟨rfl,?_,cnt (by omega),by simp⟩
     first | (show SV.d (.int .i64 (depthV xs[i]:Int))=_;rw [hmx];refine congrArg (fun n:Int=>SV.d (.int .i64 n)) ?_;omega) | (show SV.d (.int .i64 (depthsV (xs.take i):Int))=_;rw [hmx];refine congrArg (fun n:Int=>SV.d (.int .i64 n)) ?_;omega)
    ·
     refine WP.skip (hK9 _ (WP.reg tabOk rfl ?_));refine um (ub (ua (u_nil ?_)));refine ⟨i+1,⟨by omega,trivial⟩,by omega,?_⟩;refine Le.al ?_;simp only [List.forall_mem_cons];have hmx:=depthsV_snoc (xs:=xs) (i:=i) (by omega);refine ⟨rfl,?_,cnt (by omega),by simp⟩
     first | (show SV.d (.int .i64 (depthV xs[i]:Int))=_;rw [hmx];refine congrArg (fun n:Int=>SV.d (.int .i64 n)) ?_;omega) | (show SV.d (.int .i64 (depthsV (xs.take i):Int))=_;rw [hmx];refine congrArg (fun n:Int=>SV.d (.int .i64 n)) ?_;omega)
   ·
    refine WP.exit ?_;refine hK4 _ (wr (um (ub (ua (u_nil (WP.ret ?_))))));refine ret_ok rfl ?_ (by omega) (fun t ht=>(hk2 t (by omega)));refine congrArg (D.int .i64) ?_;have h0:xs.take i=xs:=List.take_of_length_le (by omega);rw [h0,wrap_succ (by omega)];rfl
  ·
   simp
  ·
   refine Le.al ?_;simp only [List.forall_mem_cons];exact ⟨rfl,rfl,rfl,by simp⟩
theorem s116 (v:Val) (hsz:szV v≤1099511627776):PSpec Tryz.prog 116 [.d (encV v)] (.d (.int .i64 (depthV v:Int))):=s116A _ v (Nat.lt_succ_self _) hsz
mutual
def rngV:Val→Prop
 | .mk _ i _ xs _=>(-9223372036854775808≤i∧i≤9223372036854775807)∧rngVs xs
def rngVs:List Val→Prop
 | []=>True
 | x :: xs=>rngV x∧rngVs xs
end
theorem rngVs_get:∀ {xs:List Val} {j:Nat} (_:rngVs xs) (h:j < xs.length),rngV (xs[j]'h)
 | x :: xs,0,hr,_=>hr.1
 | x :: xs,j+1,hr,h=>rngVs_get (xs:=xs) (j:=j) hr.2 (by simpa using h)
def cntN (n:Nat):Nat:=(grp (u64 n)).length
def textN (s:Str):Nat:=(grp (u64 s.length)).length+s.length
def namesN:List Str→Nat
 | []=>0
 | s :: r=>textN s+namesN r
mutual
def sizeV:Val→Nat
 | .mk k i t xs ns=>if k=1 then 1 else if k=2 then 2 else if k=3 then 1+(grp (zigN i)).length else if k=4∨k=5 then 1+textN t else 1+cntN xs.length+sizesV xs+namesN ns
def sizesV:List Val→Nat
 | []=>0
 | x :: xs=>sizeV x+sizesV xs
end
theorem cntN_le (n:Nat):cntN n≤10:=grp_len 10 _ (by have:=u64_lt (n:Int);omega) (by omega)
theorem zig_lt (x:Int):zigN x < 18446744073709551616:=by unfold zigN;split <;> exact u64_lt _
theorem zig_le (x:Int):(grp (zigN x)).length≤10:=grp_len 10 _ (Nat.lt_of_lt_of_le (zig_lt x) (by decide)) (by omega)
theorem textN_le (s:Str):textN s≤10+s.length:=by have:=cntN_le s.length;unfold textN cntN at *;omega
theorem namesN_le:∀ ns,namesN ns≤11 * szN ns
 | []=>by simp [namesN]
 | s :: r=>by
  have:=namesN_le r;have:=textN_le s;simp only [namesN,szN];omega
mutual
theorem sizeV_le:∀ v,sizeV v≤12 * szV v
 | .mk k i t xs ns=>by
  have h1:=sizesV_le xs;have h2:=namesN_le ns;have h3:=cntN_le xs.length;have h4:=zig_le i;have h5:=textN_le t;simp only [sizeV,szV];split
  ·omega
  ·split
   ·omega
   ·split
    ·omega
    ·split <;> omega
theorem sizesV_le:∀ xs,sizesV xs≤12 * szVs xs
 | []=>by simp [sizesV]
 | x :: xs=>by
  have h1:=sizeV_le x;have h2:=sizesV_le xs;simp only [sizesV,szVs];omega
end
theorem sizesV_snoc:∀ {xs:List Val} {i:Nat} (h:i < xs.length),sizesV (xs.take (i+1))=sizesV (xs.take i)+sizeV (xs[i]'h)
 | x :: xs,0,_=>by simp [sizesV]
 | x :: xs,i+1,h=>by
  have:=sizesV_snoc (xs:=xs) (i:=i) (by simpa using h);simp only [List.take_succ_cons,sizesV,this,List.getElem_cons_succ];omega
theorem namesN_snoc:∀ {xs:List Str} {i:Nat} (h:i < xs.length),namesN (xs.take (i+1))=namesN (xs.take i)+textN (xs[i]'h)
 | x :: xs,0,_=>by simp [namesN]
 | x :: xs,i+1,h=>by
  have:=namesN_snoc (xs:=xs) (i:=i) (by simpa using h);simp only [List.take_succ_cons,namesN,this,List.getElem_cons_succ];omega
theorem sizesV_take (xs:List Val) (i:Nat):sizesV (xs.take i)≤sizesV xs:=by
 have h:∀ (ys zs:List Val),sizesV ys≤sizesV (ys++zs):=fun ys zs=>by
  induction ys with
  | nil=>simp [sizesV]
  | cons y ys ih=>simp only [List.cons_append,sizesV];omega
 have:=h (xs.take i) (xs.drop i)
 rwa [List.take_append_drop] at this
theorem namesN_take (xs:List Str) (i:Nat):namesN (xs.take i)≤namesN xs:=by
 have h:∀ (ys zs:List Str),namesN ys≤namesN (ys++zs):=fun ys zs=>by
  induction ys with
  | nil=>simp [namesN]
  | cons y ys ih=>simp only [List.cons_append,namesN];omega
 have:=h (xs.take i) (xs.drop i)
 rwa [List.take_append_drop] at this
theorem may_items {k i t xs ns} (h:mayV (.mk k i t xs ns)=true) {j:Nat} (hj:j < xs.length):mayV (xs[j]'hj)=true:=by
 rw [mayV,maysV_all] at h;simp only [Bool.and_eq_true] at h;exact List.all_eq_true.1 h.1.1 _ (List.getElem_mem hj)
theorem add_w {a b c:Nat} (h:a+b=c) (hb:c≤9223372036854775807):SV.d (.int .i64 (IntKind.i64.wrap ((a:Int)+(b:Int))))=SV.d (.int .i64 (c:Int)):=by
 rw [wrap_i64 (by omega) (by omega),← h];simp
theorem add_w1 {b c:Nat} (h:1+b=c) (hb:c≤9223372036854775807):SV.d (.int .i64 (IntKind.i64.wrap (1+(b:Int))))=SV.d (.int .i64 (c:Int)):=by
 rw [wrap_i64 (by omega) (by omega),← h];simp
theorem fn161:FnOk Tryz.prog 161 58 [2] (bodyOf Tryz.f161):=⟨Tryz.f161,Tryz.func161,by kernel_rfl,by decide,by kernel_rfl,by kernel_rfl⟩
theorem s161A (m:Nat):∀ v:Val,SizeOf.sizeOf v < m→mayV v=true→rngV v→szV v≤1099511627776→PSpec Tryz.prog 161 [.d (encV v)] (.d (.int .i64 (sizeV v:Int))):=by
 induction m with
 | zero=>intros;omega
 | succ m ih=>
  rintro ⟨kd,it,tx,xs,ns⟩ hv hmy hrg hsz;have hsz2:1+tx.length+szVs xs+szN ns≤1099511627776:=hsz;have hxl:=szVs_len xs;have hnl:=szN_len ns;have hs1:=sizesV_le xs;have hs2:=namesN_le ns;have hc1:=cntN_le xs.length;have hz1:=zig_le it;have ht1:=textN_le tx;have hln:=encVs_length xs;refine PSpec.of fn161 (by simp) fun o nk=>?_;refine wr ?_;refine u_step (g_box rfl fun o2 hb2 hk2=>?_);refine ua ?_;refine u_nil ?_;refine WP.seq fun K3 hK3=>?_;refine wr ?_;refine uf th27 th3 hb2 ?_;refine ul th3 hb2 ?_;refine u_nil ?_;refine WP.block ?_;refine wr ?_;refine ub ?_;refine ua ?_;refine u_nil ?_;refine wc (fun hc6=>?_) (fun hc6=>?_) <;> try simp only [Q0,Q1,Q2,Q3,Q4,Q5,Q6,Q7,Q8,ge_iff_le,gt_iff_lt] at hc6
  ·
   refine wr (ua (u_nil (WP.ret ?_)));refine ret_ok rfl ?_ (by omega) (fun t ht=>(hk2 t (by omega)));clear hK3;refine congrArg (D.int .i64) ?_;simp only [beq_iff_eq,beq_eq_false_iff_ne,ne_eq,Bool.or_eq_true,Bool.or_eq_false_iff] at hc6;have e0:textN tx=(grp (u64 tx.length)).length+tx.length:=rfl
   try rw [wrap_i64 (by first | omega | (rw [bytesD_length];omega)) (by first | omega | (rw [bytesD_length];omega))]
   try rw [bytesD_length]
   have h0:∀ i,¬ i < xs.length→xs.take i=xs:=fun i h=>List.take_of_length_le (by omega);have h0n:∀ i,¬ i < ns.length→ns.take i=ns:=fun i h=>List.take_of_length_le (by omega);simp only [sizeV]
   grind
  ·
   refine wr ?_;refine ub ?_;refine ua ?_;refine u_nil ?_;refine wc (fun hc9=>?_) (fun hc9=>?_) <;> try simp only [Q0,Q1,Q2,Q3,Q4,Q5,Q6,Q7,Q8,ge_iff_le,gt_iff_lt] at hc9
   ·
    refine wr (ua (u_nil (WP.ret ?_)));refine ret_ok rfl ?_ (by omega) (fun t ht=>(hk2 t (by omega)));clear hK3;refine congrArg (D.int .i64) ?_;simp only [beq_iff_eq,beq_eq_false_iff_ne,ne_eq,Bool.or_eq_true,Bool.or_eq_false_iff] at hc6 hc9;have e0:textN tx=(grp (u64 tx.length)).length+tx.length:=rfl
    try rw [wrap_i64 (by first | omega | (rw [bytesD_length];omega)) (by first | omega | (rw [bytesD_length];omega))]
    try rw [bytesD_length]
    have h0:∀ i,¬ i < xs.length→xs.take i=xs:=fun i h=>List.take_of_length_le (by omega);have h0n:∀ i,¬ i < ns.length→ns.take i=ns:=fun i h=>List.take_of_length_le (by omega);simp only [sizeV]
    grind
   ·
    refine wr ?_;refine ub ?_;refine ua ?_;refine u_nil ?_;refine wc (fun hc12=>?_) (fun hc12=>?_) <;> try simp only [Q0,Q1,Q2,Q3,Q4,Q5,Q6,Q7,Q8,ge_iff_le,gt_iff_lt] at hc12
    ·
     refine wr (uf th27 th3 hb2 ?_);refine ul th3 hb2 ?_;refine u_step (o_rcall (s169 it hrg.1.1 hrg.1.2) rfl fun q14 o14 nk14 hqa14 hqb14 hb14 hk14=>?_);have hb2_14:=(hk14 _ (by omega)).trans hb2;refine u_step (o_len_row rfl th52 rfl hb14 ?_);refine ub (ua (u_nil (WP.ret ?_)));refine ret_ok rfl ?_ (by omega) (fun t ht=>(hk14 t (by omega)).trans ((hk2 t (by omega))));clear hK3;refine congrArg (D.int .i64) ?_;simp only [beq_iff_eq,beq_eq_false_iff_ne,ne_eq,Bool.or_eq_true,Bool.or_eq_false_iff] at hc6 hc9 hc12;have e0:textN tx=(grp (u64 tx.length)).length+tx.length:=rfl
     try rw [wrap_i64 (by first | omega | (rw [bytesD_length];omega)) (by first | omega | (rw [bytesD_length];omega))]
     try rw [bytesD_length]
     have h0:∀ i,¬ i < xs.length→xs.take i=xs:=fun i h=>List.take_of_length_le (by omega);have h0n:∀ i,¬ i < ns.length→ns.take i=ns:=fun i h=>List.take_of_length_le (by omega);simp only [sizeV]
     grind
    ·
     refine WP.seqJ ⟨al [(1,.loc nk 0),(9,.d (.int .i64 kd)),(21,.d (.bool (kd == 4 || kd == 5)))],o2,(nk+1)⟩ ?_ ?_
     ·
      refine wr ?_;refine ub ?_;refine ua ?_;refine u_nil ?_;refine wc (fun hc16=>?_) (fun hc16=>?_) <;> try simp only [Q0,Q1,Q2,Q3,Q4,Q5,Q6,Q7,Q8,ge_iff_le,gt_iff_lt] at hc16
      ·
       refine WP.skip ?_;refine Le.al ?_;simp only [List.forall_mem_cons];refine ⟨rfl,rfl,?_,by simp⟩
       first | (show SV.d (.bool (kd == (4:Int)))=_;simp only [hc16,Bool.true_or]) | (show SV.d (.bool (kd == (5:Int)))=_;simp only [hc16,Bool.false_or])
      ·
       refine WP.reg tabOk rfl ?_;refine ub (ua (u_nil ?_));refine Le.al ?_;simp only [List.forall_mem_cons];refine ⟨rfl,rfl,?_,by simp⟩
       first | (show SV.d (.bool (kd == (4:Int)))=_;simp only [hc16,Bool.true_or]) | (show SV.d (.bool (kd == (5:Int)))=_;simp only [hc16,Bool.false_or])
     ·
      refine wc (fun hc17=>?_) (fun hc17=>?_) <;> try simp only [Q0,Q1,Q2,Q3,Q4,Q5,Q6,Q7,Q8,ge_iff_le,gt_iff_lt] at hc17
      ·
       refine wr (uf th27 th9 hb2 ?_);refine ul th9 hb2 ?_;refine u_step (o_pcall (s186 tx (by omega)) rfl ?_);refine ub (ua (u_nil (WP.ret ?_)));refine ret_ok rfl ?_ (by omega) (fun t ht=>(hk2 t (by omega)));clear hK3;refine congrArg (D.int .i64) ?_;simp only [beq_iff_eq,beq_eq_false_iff_ne,ne_eq,Bool.or_eq_true,Bool.or_eq_false_iff] at hc6 hc9 hc12 hc17;have e0:textN tx=(grp (u64 tx.length)).length+tx.length:=rfl
       try rw [wrap_i64 (by first | omega | (rw [bytesD_length];omega)) (by first | omega | (rw [bytesD_length];omega))]
       try rw [bytesD_length]
       have h0:∀ i,¬ i < xs.length→xs.take i=xs:=fun i h=>List.take_of_length_le (by omega);have h0n:∀ i,¬ i < ns.length→ns.take i=ns:=fun i h=>List.take_of_length_le (by omega);simp only [sizeV]
       grind
      ·
       refine WP.skip (hK3 _ (wr (uf th27 th25 hb2 ?_)));refine ul th25 hb2 ?_;refine un th25 ?_;refine u_step (o_pcall (s187 (encVs xs).length (by omega) (by omega)) rfl ?_);refine ub (ua (u_nil (WP.seq fun K20 hK20=>?_)));refine wr (uf th27 th25 hb2 ?_);refine ul th25 hb2 ?_;refine un th25 ?_;refine um (u_nil (WP.block ?_));refine WP.loopL (ι:=Nat×(Nat→Option AO)×Nat) (fun ⟨i,o2,nk2⟩=>⟨al [(1,.loc nk 0),(3,.d (.int .i64 (1+cntN xs.length+sizesV (xs.take i):Nat))),(34,.d (.sl 5 (encVs xs))),(35,.d (.int .i64 (encVs xs).length)),(36,.d (.int .i64 i))],o2,nk2⟩) (fun ⟨i,o2,nk2⟩=>i≤xs.length∧nk < nk2∧o2 nk=some (.box (([.int .i64 kd,.int .i64 it,.str tx,.sl 5 (encVs xs),.sl 1 (ns.map .str)]:List D).map .d))∧(∀ t,t < nk→o2 t=o t)) (fun ⟨i,o2,nk2⟩=>xs.length - i) (fun ⟨i,o2,nk2⟩ hA=>?_) ⟨0,o2,(nk+1)⟩ ?_ ?_
       ·
        obtain ⟨hle,hnk,hob,hfr⟩:=hA;refine wr ?_;refine ub ?_;refine u_nil ?_;refine WP.seq fun K23 hK23=>?_;refine wc (fun hc24=>?_) (fun hc24=>?_) <;> try simp only [Q0,Q1,Q2,Q3,Q4,Q5,Q6,Q7,Q8,ge_iff_le,gt_iff_lt] at hc24
        ·
         refine WP.skip (hK23 _ (WP.seq fun K25 hK25=>?_));refine WP.block (wr ?_)
         first | refine u_step (o_ia_map rfl rfl th25 rfl th27 rfl (by omega) ?_) | refine u_step (o_ia_vs rfl rfl th25 rfl th27 rfl (by omega) ?_)
         refine uL th27 ?_;refine u_step (g_alloc th27 rfl fun o27 hb27 hk27=>?_);have hob_27:=(hk27 _ (by omega)).trans hob;refine u_step0 (g_sta rfl (congrArg SV.d (encV_eq _)) th27 rfl hb27 (by simp [valCells]) fun o28 hb28 hk28=>?_);have hob_28:=(hk28 _ (by omega)).trans hob_27;refine u_nil (WP.reg tabOk rfl ?_);refine um (ug th27 hb28 ?_);refine u_step (o_pcall (pv (v:=xs[i]) (ih _ (by exact items_lt' (by omega) hv) (may_items hmy (by omega)) (rngVs_get hrg.2 (by omega)) (by have:=szVs_get (xs:=xs) (j:=i) (by omega);omega))) rfl ?_);refine ub (ua (u_nil (hK25 _ (WP.reg tabOk rfl ?_))));refine ub (um (u_nil ?_));have hsn:=sizesV_snoc (xs:=xs) (i:=i) (by omega);have hst:=sizesV_take xs (i+1);refine ⟨⟨i+1,o28,(nk2+1)⟩,⟨by omega,by omega,hob_28,(fun t ht=>(hk28 t (by omega)).trans ((hk27 t (by omega)).trans ((hfr t (by omega)))))⟩,by simp only;omega,?_⟩;refine Le.al ?_;simp only [List.forall_mem_cons];exact ⟨rfl,add_w (by omega) (by omega),rfl,rfl,cnt (by omega),by simp⟩
        ·
         refine WP.exit ?_;refine hK20 _ (WP.seq fun K29 hK29=>?_);refine wr (uf th27 th22 hob ?_);refine ul th22 hob ?_;refine un th22 ?_;refine um (u_nil (WP.block ?_));refine WP.loopL (ι:=Nat) (fun j=>⟨al [(3,.d (.int .i64 (1+cntN xs.length+sizesV xs+namesN (ns.take j):Nat))),(46,.d (.sl 1 (ns.map .str))),(47,.d (.int .i64 (ns.map D.str).length)),(48,.d (.int .i64 j))],o2,nk2⟩) (fun j=>j≤ns.length) (fun j=>ns.length - j) (fun j hA=>?_) 0 ?_ ?_
         ·
          refine wr ?_;refine ub ?_;refine u_nil ?_;refine WP.seq fun K32 hK32=>?_;refine wc (fun hc33=>?_) (fun hc33=>?_) <;> try simp only [Q0,Q1,Q2,Q3,Q4,Q5,Q6,Q7,Q8,ge_iff_le,gt_iff_lt] at hc33
          ·
           refine WP.skip (hK32 _ (WP.seq fun K34 hK34=>?_));refine WP.block (wr ?_)
           refine u_step (o_ia_map rfl rfl th22 rfl th9 rfl (by omega) ?_)
           refine uL th9 ?_;refine ua (u_nil (WP.reg tabOk rfl ?_));refine um (um ?_);refine u_step (o_pcall (s186 ns[j] (by have:=szN_get (xs:=ns) (j:=j) (by omega);omega)) rfl ?_);refine ub (ua (u_nil (hK34 _ (WP.reg tabOk rfl ?_))));refine ub (um (u_nil ?_));have hsn:=namesN_snoc (xs:=ns) (i:=j) (by omega);have hst:=namesN_take ns (j+1);refine ⟨j+1,by omega,by omega,?_⟩;refine Le.al ?_;simp only [List.forall_mem_cons];exact ⟨add_w (by simp only [textN] at *;omega) (by omega),rfl,rfl,cnt (by omega),by simp⟩
          ·
           refine WP.exit ?_;refine hK29 _ (wr (um (ua (u_nil (WP.ret ?_)))));refine ret_ok rfl ?_ (by omega) (fun t ht=>(hfr t (by omega)));clear hK3 hK20 hK23 hK29 hK32;refine congrArg (D.int .i64) ?_;simp only [beq_iff_eq,beq_eq_false_iff_ne,ne_eq,Bool.or_eq_true,Bool.or_eq_false_iff] at hc6 hc9 hc12 hc17 hc24 hc33;have e0:textN tx=(grp (u64 tx.length)).length+tx.length:=rfl
           try rw [wrap_i64 (by first | omega | (rw [bytesD_length];omega)) (by first | omega | (rw [bytesD_length];omega))]
           try rw [bytesD_length]
           have h0:∀ i,¬ i < xs.length→xs.take i=xs:=fun i h=>List.take_of_length_le (by omega);have h0n:∀ i,¬ i < ns.length→ns.take i=ns:=fun i h=>List.take_of_length_le (by omega);simp only [sizeV]
           grind
         ·
          omega
         ·
          refine Le.al ?_;simp only [List.forall_mem_cons];have h0:xs.take i=xs:=List.take_of_length_le (by omega);exact ⟨(by rw [h0,List.take_zero];simp [namesN];rfl),rfl,rfl,rfl,by simp⟩
       ·
        refine ⟨by simp,by omega,hb2,(fun t ht=>(hk2 t (by omega)))⟩
       ·
        refine Le.al ?_;simp only [List.forall_mem_cons];refine ⟨rfl,?_,rfl,rfl,rfl,by simp⟩;exact add_w1 (by simp only [cntN,List.take_zero,sizesV,hln];omega) (by simp only [List.take_zero,sizesV];omega)
theorem s161 (v:Val) (hmy:mayV v=true) (hrg:rngV v) (hsz:szV v≤1099511627776):PSpec Tryz.prog 161 [.d (encV v)] (.d (.int .i64 (sizeV v:Int))):=s161A _ v (Nat.lt_succ_self _) hmy hrg hsz
theorem may7 {i t xs ns} (h:mayV (.mk 7 i t xs ns)=true):ns.length=xs.length:=by
 simp [mayV,kindOk] at h;omega
theorem add_w2 {a b c d:Nat} (h:a+b+c=d) (hb:d≤9223372036854775807):SV.d (.int .i64 (IntKind.i64.wrap (IntKind.i64.wrap ((a:Int)+(b:Int))+(c:Int))))=SV.d (.int .i64 (d:Int)):=by
 rw [wrap_i64 (m:=(a:Int)+(b:Int)) (by omega) (by omega),wrap_i64 (by omega) (by omega),← h];simp
def accS (k:Int) (xs:List Val) (ns:List Str) (i:Nat):Nat:=(if k=6∨k=7 then 1+cntN xs.length else 1)+sizesV (xs.take i)+(if k=7 then namesN (ns.take i) else 0)
theorem accS_a {k:Int} {xs:List Val} {ns:List Str} {i:Nat} (h:i < xs.length) (h7:¬ k=7):accS k xs ns i+sizeV (xs[i]'h)=accS k xs ns (i+1):=by
 simp only [accS,if_neg h7,sizesV_snoc h];omega
theorem accS_b {k:Int} {xs:List Val} {ns:List Str} {i:Nat} (h:i < xs.length) (hn:i < ns.length) (h7:k=7):accS k xs ns i+sizeV (xs[i]'h)+textN (ns[i]'hn)=accS k xs ns (i+1):=by
 simp only [accS,if_pos h7,sizesV_snoc h,namesN_snoc hn];omega
theorem accS_le (k:Int) (xs:List Val) (ns:List Str) (i:Nat):accS k xs ns i≤11+12 * szVs xs+11 * szN ns:=by
 have h1:=sizesV_le xs;have h2:=namesN_le ns;have h3:=cntN_le xs.length;have h4:=sizesV_take xs i;have h5:=namesN_take ns i;unfold accS;split <;> split <;> omega
theorem accS_end {k i:Int} {t:Str} {xs:List Val} {ns:List Str} (hm:mayV (.mk k i t xs ns)=true) (h2:¬ k=2) (h3:¬ k=3) (h4:¬ (k=4∨k=5)):accS k xs ns xs.length=sizeV (.mk k i t xs ns):=by
 have hx:xs.take xs.length=xs:=List.take_length;simp only [accS,sizeV,hx];have hk:k=1∨k=6∨k=7:=by
  simp only [mayV,kindOk,Bool.and_eq_true] at hm;have:=hm.2;by_cases k=1 <;> by_cases k=6 <;> by_cases k=7 <;> simp_all
 rcases hk with rfl | rfl | rfl
 ·have:xs=[]:=by simp [mayV,kindOk] at hm;exact hm.2.1.2
  subst this;simp [sizesV]
 ·have:ns=[]:=by simp [mayV,kindOk] at hm;exact hm.2.2
  subst this;simp [namesN]
 ·have hl:=may7 hm;have:ns.take xs.length=ns:=by rw [← hl];exact List.take_length
  simp [this]
theorem fn117:FnOk Tryz.prog 117 62 [2] (bodyOf Tryz.f117):=⟨Tryz.f117,Tryz.func117,by kernel_rfl,by decide,by kernel_rfl,by kernel_rfl⟩
theorem s117A (m:Nat):∀ v:Val,SizeOf.sizeOf v < m→mayV v=true→rngV v→szV v≤1099511627776→PSpec Tryz.prog 117 [.d (encV v)] (.d (.int .i64 (sizeV v:Int))):=by
 induction m with
 | zero=>intros;omega
 | succ m ih=>
  rintro ⟨kd,it,tx,xs,ns⟩ hv hmy hrg hsz;have hsz2:1+tx.length+szVs xs+szN ns≤1099511627776:=hsz;have hxl:=szVs_len xs;have hnl:=szN_len ns;have hs1:=sizesV_le xs;have hs2:=namesN_le ns;have hc1:=cntN_le xs.length;have hz1:=zig_le it;have ht1:=textN_le tx;have hln:=encVs_length xs;refine PSpec.of fn117 (by simp) fun o nk=>?_;refine wr ?_;refine u_step (g_box rfl fun o2 hb2 hk2=>?_);refine ua ?_;refine u_nil ?_;refine wr ?_;refine ua ?_;refine u_nil ?_;refine WP.seq fun K4 hK4=>?_;refine wr ?_;refine uf th27 th3 hb2 ?_;refine ul th3 hb2 ?_;refine u_nil ?_;refine WP.block ?_;refine wr ?_;refine ub ?_;refine ua ?_;refine u_nil ?_;refine wc (fun hc7=>?_) (fun hc7=>?_) <;> try simp only [Q0,Q1,Q2,Q3,Q4,Q5,Q6,Q7,Q8,ge_iff_le,gt_iff_lt] at hc7
  ·
   refine wr (ua (u_nil (WP.ret ?_)));refine ret_ok rfl ?_ (by omega) (fun t ht=>(hk2 t (by omega)));clear hK4;refine congrArg (D.int .i64) ?_;simp only [beq_iff_eq,beq_eq_false_iff_ne,ne_eq,Bool.or_eq_true,Bool.or_eq_false_iff] at hc7;have e0:textN tx=(grp (u64 tx.length)).length+tx.length:=rfl
   try simp only [bytesD_length,List.length_append]
   try rw [wrap_i64 (by omega) (by omega)]
   try rw [bytesD_length]
   have h0:∀ i,¬ i < xs.length→xs.take i=xs:=fun i h=>List.take_of_length_le (by omega);have h0n:∀ i,¬ i < ns.length→ns.take i=ns:=fun i h=>List.take_of_length_le (by omega);simp only [sizeV]
   grind
  ·
   refine wr ?_;refine ub ?_;refine ua ?_;refine u_nil ?_;refine wc (fun hc10=>?_) (fun hc10=>?_) <;> try simp only [Q0,Q1,Q2,Q3,Q4,Q5,Q6,Q7,Q8,ge_iff_le,gt_iff_lt] at hc10
   ·
    refine wr (uf th27 th3 hb2 ?_);refine ul th3 hb2 ?_;refine u_step (o_rcall (s141 it hrg.1.1 hrg.1.2) rfl fun q12 o12 nk12 hqa12 hqb12 hb12 hk12=>?_);have hb2_12:=(hk12 _ (by omega)).trans hb2;refine u_step (o_len_row rfl th52 rfl hb12 ?_);refine ub (ua (u_nil (WP.ret ?_)));refine ret_ok rfl ?_ (by omega) (fun t ht=>(hk12 t (by omega)).trans ((hk2 t (by omega))));clear hK4;refine congrArg (D.int .i64) ?_;simp only [beq_iff_eq,beq_eq_false_iff_ne,ne_eq,Bool.or_eq_true,Bool.or_eq_false_iff] at hc7 hc10;have e0:textN tx=(grp (u64 tx.length)).length+tx.length:=rfl
    try simp only [bytesD_length,List.length_append]
    try rw [wrap_i64 (by omega) (by omega)]
    try rw [bytesD_length]
    have h0:∀ i,¬ i < xs.length→xs.take i=xs:=fun i h=>List.take_of_length_le (by omega);have h0n:∀ i,¬ i < ns.length→ns.take i=ns:=fun i h=>List.take_of_length_le (by omega);simp only [sizeV]
    grind
   ·
    refine WP.seqJ ⟨al [(1,.loc nk 0),(3,.d (.int .i64 1)),(6,.d (.int .i64 kd)),(16,.d (.bool (kd == 4 || kd == 5)))],o2,(nk+1)⟩ ?_ ?_
    ·
     refine wr ?_;refine ub ?_;refine ua ?_;refine u_nil ?_;refine wc (fun hc14=>?_) (fun hc14=>?_) <;> try simp only [Q0,Q1,Q2,Q3,Q4,Q5,Q6,Q7,Q8,ge_iff_le,gt_iff_lt] at hc14
     ·
      refine WP.skip ?_;refine Le.al ?_;simp only [List.forall_mem_cons];refine ⟨rfl,rfl,rfl,?_,by simp⟩
      first | (show SV.d (.bool (kd == (4:Int)))=_;simp only [hc14,Bool.true_or]) | (show SV.d (.bool (kd == (5:Int)))=_;simp only [hc14,Bool.false_or])
     ·
      refine WP.reg tabOk rfl ?_;refine ub (ua (u_nil ?_));refine Le.al ?_;simp only [List.forall_mem_cons];refine ⟨rfl,rfl,rfl,?_,by simp⟩
      first | (show SV.d (.bool (kd == (4:Int)))=_;simp only [hc14,Bool.true_or]) | (show SV.d (.bool (kd == (5:Int)))=_;simp only [hc14,Bool.false_or])
    ·
     refine wc (fun hc15=>?_) (fun hc15=>?_) <;> try simp only [Q0,Q1,Q2,Q3,Q4,Q5,Q6,Q7,Q8,ge_iff_le,gt_iff_lt] at hc15
     ·
      refine wr (uf th27 th9 hb2 ?_);refine ul th9 hb2 ?_;refine u_step (o_rcall (s89 tx (by omega)) rfl fun q17 o17 nk17 hqa17 hqb17 hb17 hk17=>?_);have hb2_17:=(hk17 _ (by omega)).trans hb2;refine u_step (o_len_row rfl th52 rfl hb17 ?_);refine ub (ua (u_nil (WP.ret ?_)));refine ret_ok rfl ?_ (by omega) (fun t ht=>(hk17 t (by omega)).trans ((hk2 t (by omega))));clear hK4;refine congrArg (D.int .i64) ?_;simp only [beq_iff_eq,beq_eq_false_iff_ne,ne_eq,Bool.or_eq_true,Bool.or_eq_false_iff] at hc7 hc10 hc15;have e0:textN tx=(grp (u64 tx.length)).length+tx.length:=rfl
      try simp only [bytesD_length,List.length_append]
      try rw [wrap_i64 (by omega) (by omega)]
      try rw [bytesD_length]
      have h0:∀ i,¬ i < xs.length→xs.take i=xs:=fun i h=>List.take_of_length_le (by omega);have h0n:∀ i,¬ i < ns.length→ns.take i=ns:=fun i h=>List.take_of_length_le (by omega);simp only [sizeV]
      grind
     ·
      refine WP.seqJ ⟨al [(1,.loc nk 0),(3,.d (.int .i64 1)),(6,.d (.int .i64 kd)),(24,.d (.bool (kd == 6 || kd == 7)))],o2,(nk+1)⟩ ?_ ?_
      ·
       refine wr ?_;refine ub ?_;refine ua ?_;refine u_nil ?_;refine wc (fun hc19=>?_) (fun hc19=>?_) <;> try simp only [Q0,Q1,Q2,Q3,Q4,Q5,Q6,Q7,Q8,ge_iff_le,gt_iff_lt] at hc19
       ·
        refine WP.skip ?_;refine Le.al ?_;simp only [List.forall_mem_cons];refine ⟨rfl,rfl,rfl,?_,by simp⟩
        first | (show SV.d (.bool (kd == (6:Int)))=_;simp only [hc19,Bool.true_or]) | (show SV.d (.bool (kd == (7:Int)))=_;simp only [hc19,Bool.false_or])
       ·
        refine WP.reg tabOk rfl ?_;refine ub (ua (u_nil ?_));refine Le.al ?_;simp only [List.forall_mem_cons];refine ⟨rfl,rfl,rfl,?_,by simp⟩
        first | (show SV.d (.bool (kd == (6:Int)))=_;simp only [hc19,Bool.true_or]) | (show SV.d (.bool (kd == (7:Int)))=_;simp only [hc19,Bool.false_or])
      ·
       refine wc (fun hc20=>?_) (fun hc20=>?_) <;> try simp only [Q0,Q1,Q2,Q3,Q4,Q5,Q6,Q7,Q8,ge_iff_le,gt_iff_lt] at hc20
       ·
        refine WP.reg tabOk rfl ?_;refine um (uf th27 th25 hb2 ?_);refine ul th25 hb2 ?_;refine un th25 ?_;refine u_step (o_rcall (s88 _) rfl fun q21 o21 nk21 hqa21 hqb21 hb21 hk21=>?_);have hb2_21:=(hk21 _ (by omega)).trans hb2;refine u_step (o_len_row rfl th52 rfl hb21 ?_);refine ub (ua (u_nil (hK4 _ (WP.seq fun K22 hK22=>?_))));refine wr (ua (u_nil (WP.block ?_)));refine WP.loopL (ι:=Nat×(Nat→Option AO)×Nat) (fun ⟨i,o2,nk2⟩=>⟨al [(1,.loc nk 0),(3,.d (.int .i64 (accS kd xs ns i:Nat))),(4,.d (.int .i64 i))],o2,nk2⟩) (fun ⟨i,o2,nk2⟩=>i≤xs.length∧nk < nk2∧o2 nk=some (.box (([.int .i64 kd,.int .i64 it,.str tx,.sl 5 (encVs xs),.sl 1 (ns.map .str)]:List D).map .d))∧(∀ t,t < nk→o2 t=o t)) (fun ⟨i,o2,nk2⟩=>xs.length - i) (fun ⟨i,o2,nk2⟩ hA=>?_) ⟨0,o21,nk21⟩ ?_ ?_
        ·
         obtain ⟨hle,hnk,hob,hfr⟩:=hA;refine WP.seq fun K24 hK24=>?_;refine wr ?_;refine um ?_;refine uf th27 th25 hob ?_;refine ul th25 hob ?_;refine un th25 ?_;refine ub ?_;refine u_nil ?_;refine wc (fun hc26=>?_) (fun hc26=>?_) <;> try simp only [Q0,Q1,Q2,Q3,Q4,Q5,Q6,Q7,Q8,ge_iff_le,gt_iff_lt] at hc26
         ·
          refine WP.skip (hK24 _ (WP.seq fun K27 hK27=>?_));refine WP.block (wr (um (uf th27 th25 hob ?_)));refine ul th25 hob ?_;refine um ?_
          first | refine u_step (o_ia_map rfl rfl th25 rfl th27 rfl (by omega) ?_) | refine u_step (o_ia_vs rfl rfl th25 rfl th27 rfl (by omega) ?_)
          refine uL th27 ?_;refine u_step (o_pcall (ih _ (by exact items_lt' (by omega) hv) (by exact may_items hmy (by omega)) (by exact rngVs_get hrg.2 (by omega)) (by have:=szVs_get (xs:=xs) (j:=i) (by omega);omega)) rfl ?_);refine ub ?_;refine ua ?_;refine u_nil ?_;refine wr ?_;refine uf th27 th3 hob ?_;refine ul th3 hob ?_;refine ub ?_;refine u_nil ?_;refine wc (fun hc30=>?_) (fun hc30=>?_) <;> try simp only [Q0,Q1,Q2,Q3,Q4,Q5,Q6,Q7,Q8,ge_iff_le,gt_iff_lt] at hc30
          ·
           have hk7:kd=7:=by simpa using hc30
           have hln7:ns.length=xs.length:=by subst hk7;exact may7 hmy
           have hni:=szN_get (xs:=ns) (j:=i) (by omega);have htn:=textN_le ns[i];refine WP.reg tabOk rfl ?_;refine um (uf th27 th22 hob ?_);refine ul th22 hob ?_;refine um ?_
           refine u_step (o_ia_map rfl rfl th22 rfl th9 rfl (by omega) ?_)
           refine uL th9 ?_;refine u_step (o_rcall (s89 _ (by have:=szN_get (xs:=ns) (j:=i) (by omega);omega)) rfl fun q31 o31 nk31 hqa31 hqb31 hb31 hk31=>?_);have hob_31:=(hk31 _ (by omega)).trans hob;refine u_step (o_len_row rfl th52 rfl hb31 ?_);refine ub (ua (u_nil (hK27 _ (WP.reg tabOk rfl ?_))));refine um (ub (ua (u_nil ?_)));have hal:=accS_le kd xs ns (i+1);refine ⟨⟨i+1,o31,nk31⟩,⟨by omega,by omega,hob_31,(fun t ht=>(hk31 t (by omega)).trans ((hfr t (by omega))))⟩,by simp only;omega,?_⟩;refine Le.al ?_;simp only [List.forall_mem_cons];refine ⟨rfl,?_,cnt (by omega),by simp⟩
           first | exact add_w2 (by rw [bytesD_length,List.length_append];exact accS_b (by omega) (by omega) hk7) (by omega) | exact add_w (accS_a (by omega) (by simpa using hc30)) (by omega)
          ·
           refine WP.skip (hK27 _ (WP.reg tabOk rfl ?_));refine um (ub (ua (u_nil ?_)));have hal:=accS_le kd xs ns (i+1);refine ⟨⟨i+1,o2,nk2⟩,⟨by omega,by omega,hob,(fun t ht=>(hfr t (by omega)))⟩,by simp only;omega,?_⟩;refine Le.al ?_;simp only [List.forall_mem_cons];refine ⟨rfl,?_,cnt (by omega),by simp⟩
           first | exact add_w2 (by rw [bytesD_length,List.length_append];exact accS_b (by omega) (by omega) hk7) (by omega) | exact add_w (accS_a (by omega) (by simpa using hc30)) (by omega)
         ·
          refine WP.exit ?_;refine hK22 _ (wr (um (ua (u_nil (WP.ret ?_)))));refine ret_ok rfl ?_ (by omega) (fun t ht=>(hfr t (by omega)));clear hK4 hK22 hK24;refine congrArg (D.int .i64) ?_;simp only [beq_iff_eq,beq_eq_false_iff_ne,ne_eq,Bool.or_eq_true,Bool.or_eq_false_iff] at hc7 hc10 hc15 hc20 hc26;have hi:i=xs.length:=by omega
          rw [hi];exact congrArg _ (accS_end hmy (by grind) (by grind) (by grind))
        ·
         refine ⟨by simp,by omega,hb2_21,(fun t ht=>(hk21 t (by omega)).trans ((hk2 t (by omega))))⟩
        ·
         refine Le.al ?_;simp only [List.forall_mem_cons];refine ⟨rfl,?_,rfl,by simp⟩
         first | exact add_w1 (by (have hk:kd=6∨kd=7:=(by simpa using hc20));(simp only [accS,if_pos hk,bytesD_length,hln,cntN,List.take_zero,sizesV,namesN]);(split <;> omega)) (by have:=accS_le kd xs ns 0;omega) | (have hk:¬ (kd=6∨kd=7):=(by simpa using hc20);show SV.d (.int .i64 1)=_;have h1:accS kd xs ns 0=1:=(by simp only [accS,if_neg hk,List.take_zero,sizesV,namesN];split <;> rfl);rw [h1];rfl)
       ·
        refine WP.skip (hK4 _ (WP.seq fun K33 hK33=>?_));refine wr (ua (u_nil (WP.block ?_)));refine WP.loopL (ι:=Nat×(Nat→Option AO)×Nat) (fun ⟨i,o2,nk2⟩=>⟨al [(1,.loc nk 0),(3,.d (.int .i64 (accS kd xs ns i:Nat))),(4,.d (.int .i64 i))],o2,nk2⟩) (fun ⟨i,o2,nk2⟩=>i≤xs.length∧nk < nk2∧o2 nk=some (.box (([.int .i64 kd,.int .i64 it,.str tx,.sl 5 (encVs xs),.sl 1 (ns.map .str)]:List D).map .d))∧(∀ t,t < nk→o2 t=o t)) (fun ⟨i,o2,nk2⟩=>xs.length - i) (fun ⟨i,o2,nk2⟩ hA=>?_) ⟨0,o2,(nk+1)⟩ ?_ ?_
        ·
         obtain ⟨hle,hnk,hob,hfr⟩:=hA;refine WP.seq fun K35 hK35=>?_;refine wr ?_;refine um ?_;refine uf th27 th25 hob ?_;refine ul th25 hob ?_;refine un th25 ?_;refine ub ?_;refine u_nil ?_;refine wc (fun hc37=>?_) (fun hc37=>?_) <;> try simp only [Q0,Q1,Q2,Q3,Q4,Q5,Q6,Q7,Q8,ge_iff_le,gt_iff_lt] at hc37
         ·
          refine WP.skip (hK35 _ (WP.seq fun K38 hK38=>?_));refine WP.block (wr (um (uf th27 th25 hob ?_)));refine ul th25 hob ?_;refine um ?_
          first | refine u_step (o_ia_map rfl rfl th25 rfl th27 rfl (by omega) ?_) | refine u_step (o_ia_vs rfl rfl th25 rfl th27 rfl (by omega) ?_)
          refine uL th27 ?_;refine u_step (o_pcall (ih _ (by exact items_lt' (by omega) hv) (by exact may_items hmy (by omega)) (by exact rngVs_get hrg.2 (by omega)) (by have:=szVs_get (xs:=xs) (j:=i) (by omega);omega)) rfl ?_);refine ub ?_;refine ua ?_;refine u_nil ?_;refine wr ?_;refine uf th27 th3 hob ?_;refine ul th3 hob ?_;refine ub ?_;refine u_nil ?_;refine wc (fun hc41=>?_) (fun hc41=>?_) <;> try simp only [Q0,Q1,Q2,Q3,Q4,Q5,Q6,Q7,Q8,ge_iff_le,gt_iff_lt] at hc41
          ·
           have hk7:kd=7:=by simpa using hc41
           have hln7:ns.length=xs.length:=by subst hk7;exact may7 hmy
           have hni:=szN_get (xs:=ns) (j:=i) (by omega);have htn:=textN_le ns[i];refine WP.reg tabOk rfl ?_;refine um (uf th27 th22 hob ?_);refine ul th22 hob ?_;refine um ?_
           refine u_step (o_ia_map rfl rfl th22 rfl th9 rfl (by omega) ?_)
           refine uL th9 ?_;refine u_step (o_rcall (s89 _ (by have:=szN_get (xs:=ns) (j:=i) (by omega);omega)) rfl fun q42 o42 nk42 hqa42 hqb42 hb42 hk42=>?_);have hob_42:=(hk42 _ (by omega)).trans hob;refine u_step (o_len_row rfl th52 rfl hb42 ?_);refine ub (ua (u_nil (hK38 _ (WP.reg tabOk rfl ?_))));refine um (ub (ua (u_nil ?_)));have hal:=accS_le kd xs ns (i+1);refine ⟨⟨i+1,o42,nk42⟩,⟨by omega,by omega,hob_42,(fun t ht=>(hk42 t (by omega)).trans ((hfr t (by omega))))⟩,by simp only;omega,?_⟩;refine Le.al ?_;simp only [List.forall_mem_cons];refine ⟨rfl,?_,cnt (by omega),by simp⟩
           first | exact add_w2 (by rw [bytesD_length,List.length_append];exact accS_b (by omega) (by omega) hk7) (by omega) | exact add_w (accS_a (by omega) (by simpa using hc41)) (by omega)
          ·
           refine WP.skip (hK38 _ (WP.reg tabOk rfl ?_));refine um (ub (ua (u_nil ?_)));have hal:=accS_le kd xs ns (i+1);refine ⟨⟨i+1,o2,nk2⟩,⟨by omega,by omega,hob,(fun t ht=>(hfr t (by omega)))⟩,by simp only;omega,?_⟩;refine Le.al ?_;simp only [List.forall_mem_cons];refine ⟨rfl,?_,cnt (by omega),by simp⟩
           first | exact add_w2 (by rw [bytesD_length,List.length_append];exact accS_b (by omega) (by omega) hk7) (by omega) | exact add_w (accS_a (by omega) (by simpa using hc41)) (by omega)
         ·
          refine WP.exit ?_;refine hK33 _ (wr (um (ua (u_nil (WP.ret ?_)))));refine ret_ok rfl ?_ (by omega) (fun t ht=>(hfr t (by omega)));clear hK4 hK33 hK35;refine congrArg (D.int .i64) ?_;simp only [beq_iff_eq,beq_eq_false_iff_ne,ne_eq,Bool.or_eq_true,Bool.or_eq_false_iff] at hc7 hc10 hc15 hc20 hc37;have hi:i=xs.length:=by omega
          rw [hi];exact congrArg _ (accS_end hmy (by grind) (by grind) (by grind))
        ·
         refine ⟨by simp,by omega,hb2,(fun t ht=>(hk2 t (by omega)))⟩
        ·
         refine Le.al ?_;simp only [List.forall_mem_cons];refine ⟨rfl,?_,rfl,by simp⟩
         first | exact add_w1 (by (have hk:kd=6∨kd=7:=(by simpa using hc20));(simp only [accS,if_pos hk,bytesD_length,hln,cntN,List.take_zero,sizesV,namesN]);(split <;> omega)) (by have:=accS_le kd xs ns 0;omega) | (have hk:¬ (kd=6∨kd=7):=(by simpa using hc20);show SV.d (.int .i64 1)=_;have h1:accS kd xs ns 0=1:=(by simp only [accS,if_neg hk,List.take_zero,sizesV,namesN];split <;> rfl);rw [h1];rfl)
theorem s117 (v:Val) (hmy:mayV v=true) (hrg:rngV v) (hsz:szV v≤1099511627776):PSpec Tryz.prog 117 [.d (encV v)] (.d (.int .i64 (sizeV v:Int))):=s117A _ v (Nat.lt_succ_self _) hmy hrg hsz
def checkV (v:Val):Int:=if mayV v=false then 20 else if 8 < depthV v then 21 else if 4096 < sizeV v then 22 else 0
theorem fn123:FnOk Tryz.prog 123 15 [2] (bodyOf Tryz.f123):=⟨Tryz.f123,Tryz.func123,by kernel_rfl,by decide,by kernel_rfl,by kernel_rfl⟩
theorem s123 (v:Val) (hrg:rngV v) (hsz:szV v≤1099511627776):PSpec Tryz.prog 123 [.d (encV v)] (.d (.int .i64 (checkV v))):=by
 obtain ⟨kd,it,tx,xs,ns⟩:=v;refine PSpec.of fn123 (by simp) fun o nk=>?_;refine wr ?_;refine u_step (g_box rfl fun o2 hb2 hk2=>?_);refine ua ?_;refine u_nil ?_;refine WP.seq fun K3 hK3=>?_;refine WP.block ?_;refine wr ?_;refine ug th27 hb2 ?_;refine u_step (o_pcall (s76 (.mk kd it tx xs ns)) rfl ?_);refine uN ?_;refine ua ?_;refine u_nil ?_;refine wc (fun hc5=>?_) (fun hc5=>?_) <;> try simp only [Q0,Q1,Q2,Q3,Q4,Q5,Q6,Q7,Q8,ge_iff_le,gt_iff_lt] at hc5
 ·
  refine wr (ua (u_nil (WP.ret ?_)));refine ret_ok rfl ?_ (by omega) (fun t ht=>(hk2 t (by omega)));clear hK3;refine congrArg (D.int .i64) ?_;simp only [checkV]
  grind
 ·
  refine wr ?_;refine ug th27 hb2 ?_;refine u_step (o_pcall (s160 (.mk kd it tx xs ns) hsz) rfl ?_);refine ub ?_;refine ua ?_;refine u_nil ?_;refine wc (fun hc8=>?_) (fun hc8=>?_) <;> try simp only [Q0,Q1,Q2,Q3,Q4,Q5,Q6,Q7,Q8,ge_iff_le,gt_iff_lt] at hc8
  ·
   refine wr (ua (u_nil (WP.ret ?_)));refine ret_ok rfl ?_ (by omega) (fun t ht=>(hk2 t (by omega)));clear hK3;refine congrArg (D.int .i64) ?_;simp only [checkV]
   grind
  ·
   refine wr ?_;refine ug th27 hb2 ?_;refine u_step (o_pcall (s161 (.mk kd it tx xs ns) (by assumption) hrg hsz) rfl ?_);refine ub ?_;refine ua ?_;refine u_nil ?_;refine wc (fun hc11=>?_) (fun hc11=>?_) <;> try simp only [Q0,Q1,Q2,Q3,Q4,Q5,Q6,Q7,Q8,ge_iff_le,gt_iff_lt] at hc11
   ·
    refine wr (ua (u_nil (WP.ret ?_)));refine ret_ok rfl ?_ (by omega) (fun t ht=>(hk2 t (by omega)));clear hK3;refine congrArg (D.int .i64) ?_;simp only [checkV]
    grind
   ·
    refine WP.skip (hK3 _ (wr (ua (u_nil (WP.ret ?_)))));refine ret_ok rfl ?_ (by omega) (fun t ht=>(hk2 t (by omega)));clear hK3;refine congrArg (D.int .i64) ?_;simp only [checkV]
    grind
theorem fn66:FnOk Tryz.prog 66 15 [2] (bodyOf Tryz.f66):=⟨Tryz.f66,Tryz.func66,by kernel_rfl,by decide,by kernel_rfl,by kernel_rfl⟩
theorem s66 (v:Val) (hrg:rngV v) (hsz:szV v≤1099511627776):PSpec Tryz.prog 66 [.d (encV v)] (.d (.int .i64 (checkV v))):=by
 obtain ⟨kd,it,tx,xs,ns⟩:=v;refine PSpec.of fn66 (by simp) fun o nk=>?_;refine wr ?_;refine u_step (g_box rfl fun o2 hb2 hk2=>?_);refine ua ?_;refine u_nil ?_;refine WP.seq fun K3 hK3=>?_;refine WP.block ?_;refine wr ?_;refine ug th27 hb2 ?_;refine u_step (o_pcall (s80 (.mk kd it tx xs ns)) rfl ?_);refine uN ?_;refine ua ?_;refine u_nil ?_;refine wc (fun hc5=>?_) (fun hc5=>?_) <;> try simp only [Q0,Q1,Q2,Q3,Q4,Q5,Q6,Q7,Q8,ge_iff_le,gt_iff_lt] at hc5
 ·
  refine wr (ua (u_nil (WP.ret ?_)));refine ret_ok rfl ?_ (by omega) (fun t ht=>(hk2 t (by omega)));clear hK3;refine congrArg (D.int .i64) ?_;simp only [checkV]
  grind
 ·
  refine wr ?_;refine ug th27 hb2 ?_;refine u_step (o_pcall (s116 (.mk kd it tx xs ns) hsz) rfl ?_);refine ub ?_;refine ua ?_;refine u_nil ?_;refine wc (fun hc8=>?_) (fun hc8=>?_) <;> try simp only [Q0,Q1,Q2,Q3,Q4,Q5,Q6,Q7,Q8,ge_iff_le,gt_iff_lt] at hc8
  ·
   refine wr (ua (u_nil (WP.ret ?_)));refine ret_ok rfl ?_ (by omega) (fun t ht=>(hk2 t (by omega)));clear hK3;refine congrArg (D.int .i64) ?_;simp only [checkV]
   grind
  ·
   refine wr ?_;refine ug th27 hb2 ?_;refine u_step (o_pcall (s117 (.mk kd it tx xs ns) (by assumption) hrg hsz) rfl ?_);refine ub ?_;refine ua ?_;refine u_nil ?_;refine wc (fun hc11=>?_) (fun hc11=>?_) <;> try simp only [Q0,Q1,Q2,Q3,Q4,Q5,Q6,Q7,Q8,ge_iff_le,gt_iff_lt] at hc11
   ·
    refine wr (ua (u_nil (WP.ret ?_)));refine ret_ok rfl ?_ (by omega) (fun t ht=>(hk2 t (by omega)));clear hK3;refine congrArg (D.int .i64) ?_;simp only [checkV]
    grind
   ·
    refine WP.skip (hK3 _ (wr (ua (u_nil (WP.ret ?_)))));refine ret_ok rfl ?_ (by omega) (fun t ht=>(hk2 t (by omega)));clear hK3;refine congrArg (D.int .i64) ?_;simp only [checkV]
    grind
def noneV (v:Val):Bool:=decide (v.kind=0∧v.int=0∧v.text=[]∧v.items=[]∧v.names=[])
theorem same_iff {k k' i i':Int} {t t':Str} {xs ys:List Val} {ns ms:List Str}:sameV (.mk k i t xs ns) (.mk k' i' t' ys ms)=true↔k=k'∧i=i'∧t=t'∧xs=ys∧ns=ms:=by
 simp [sameV]
theorem same_refl (v:Val):sameV v v=true:=by simp [sameV]
theorem same_eq {v w:Val}:sameV v w=true↔v=w:=by simp [sameV]
theorem same_ne {v w:Val} (h:v≠w):sameV v w=false:=by simp [sameV,h]
theorem any_not {α:Type} (xs:List α) (p:α→Bool):(xs.any fun x=>!p x)=!xs.all p:=by
 induction xs with
 | nil=>rfl
 | cons x xs ih=>simp [ih,Bool.not_and]
theorem none_mk (k i:Int) (t:Str) (xs:List Val) (ns:List Str):noneV (.mk k i t xs ns)=decide (k=0∧i=0∧t=[]∧xs=[]∧ns=[]):=rfl
theorem none_same (v:Val):sameV v (.mk 0 0 [] [] [])=noneV v:=by
 cases v;rw [Bool.eq_iff_iff,same_iff,none_mk,decide_eq_true_eq]
theorem fn110:FnOk Tryz.prog 110 6 [2] (bodyOf Tryz.f110):=⟨Tryz.f110,Tryz.func110,by kernel_rfl,by decide,by kernel_rfl,by kernel_rfl⟩
theorem s110 (s:Str):PSpec Tryz.prog 110 [.d (.str s)] (.d (.bool (!nameV s))):=by
 refine PSpec.of fn110 (by simp) fun o nk=>?_;refine wr (ua (u_nil (wr (um ?_))));refine u_step (o_pcall (s111 _) rfl ?_);refine uN (ua (u_nil (WP.ret ?_)));refine ret_ok rfl ?_ (by omega) (fun _ _=>rfl);rfl
theorem fn56:FnOk Tryz.prog 56 18 [2] (bodyOf Tryz.f56):=⟨Tryz.f56,Tryz.func56,by kernel_rfl,by decide,by kernel_rfl,by kernel_rfl⟩
theorem s56 (ns:List Str):PSpec Tryz.prog 56 [.d (.sl 1 (ns.map .str))] (.d (.bool (pathV ns))):=by
 refine PSpec.of fn56 (by simp) fun o nk=>?_;refine wr (ua (u_nil (wr ?_)));refine u_step (o_assignV (v:=.clo _ _ _) rfl ?_);refine u_nil (wr (um (un th22 ?_)));refine ub (um ?_);apply gT
 ·rfl
 ·intro hg;exact pm
 apply gT
 ·rfl
 ·intro hg;try simp only [hg,ct,Bt]
  exact pn th22
 apply gT
 ·rfl
 ·intro hg;try simp only [hg,ct,Bt]
  exact pb
 refine uA (um ?_);apply gT
 ·rfl
 ·intro hg;exact pm
 apply gT
 ·rfl
 ·intro hg;refine o_moveV (v:=.clo _ _ _) rfl ⟨rfl,rfl,rfl⟩
 apply gT
 ·rfl
 ·intro hg;try simp only [hg,ct,Bt]
  refine o_scall (s112 ns 110 [] [] (fun s=>!nameV s) (fun x hx=>s110 x _ _)) rfl ⟨rfl,rfl,rfl⟩
 apply gT
 ·rfl
 ·intro hg;try simp only [hg,ct,Bt]
  exact pN
 refine uA (ua (u_nil (WP.ret ?_)));refine ret_ok rfl ?_ (by omega) (fun _ _=>rfl);refine congrArg D.bool ?_;rw [any_not,Bool.eq_iff_iff];simp [pathV]
 grind
theorem fn124:FnOk Tryz.prog 124 26 [2] (bodyOf Tryz.f124):=⟨Tryz.f124,Tryz.func124,by kernel_rfl,by decide,by kernel_rfl,by kernel_rfl⟩
theorem s124 (v:Val) (hsz:szV v≤1099511627776):PSpec Tryz.prog 124 [.d (encV v)] (.d (.bool (noneV v))):=by
 obtain ⟨kd,it,tx,xs,ns⟩:=v;have hsz2:1+tx.length+szVs xs+szN ns≤1099511627776:=hsz;have hxl:=szVs_len xs;have hnl:=szN_len ns;refine PSpec.of fn124 (by simp) fun o nk=>?_;refine wr ?_;refine u_step (g_box rfl fun o2 hb2 hk2=>?_);refine ua (u_nil (wr (uf th27 th3 hb2 ?_)));refine ul th3 hb2 ?_;refine ub (um ?_);apply gT
 ·rfl
 ·intro hg;exact pf th27 th3 hb2
 apply gT
 ·rfl
 ·intro hg;try simp only [hg,ct,Bt]
  exact pl th3 hb2
 apply gT
 ·rfl
 ·intro hg;try simp only [hg,ct,Bt]
  exact pb
 refine uA (um ?_);apply gT
 ·rfl
 ·intro hg;exact pf th27 th9 hb2
 apply gT
 ·rfl
 ·intro hg;try simp only [hg,ct,Bt]
  exact pl th9 hb2
 apply gT
 ·rfl
 ·intro hg;try simp only [hg,ct,Bt]
  refine o_bin_str rfl (show _=SV.d (.str []) from rfl) rfl ⟨rfl,rfl,rfl⟩
 refine uA (um ?_);apply gT
 ·rfl
 ·intro hg;exact pf th27 th25 hb2
 apply gT
 ·rfl
 ·intro hg;try simp only [hg,ct,Bt]
  exact pl th25 hb2
 apply gT
 ·rfl
 ·intro hg;try simp only [hg,ct,Bt]
  exact pn th25
 apply gT
 ·rfl
 ·intro hg;exact pf th27 th22 hb2
 apply gT
 ·rfl
 ·intro hg;try simp only [hg,ct,Bt]
  exact pl th22 hb2
 apply gT
 ·rfl
 ·intro hg;try simp only [hg,ct,Bt]
  exact pn th22
 apply gT
 ·rfl
 ·intro hg;try simp only [hg,ct,Bt]
  exact pb
 apply gT
 ·rfl
 ·intro hg;try simp only [hg,ct,Bt]
  exact pb
 refine uA (ua (u_nil (WP.ret ?_)));refine ret_ok rfl ?_ (by omega) (fun t ht=>(hk2 t (by omega)))
 skip
 refine congrArg D.bool ?_;rw [wrap_i64 (by rw [encVs_length,List.length_map];omega) (by rw [encVs_length,List.length_map];omega),Bool.eq_iff_iff];rw [none_mk];simp only [Bool.and_eq_true,beq_iff_eq,decide_eq_true_eq,encVs_length,List.length_map];rw [← List.length_eq_zero_iff (l:=xs),← List.length_eq_zero_iff (l:=ns)]
 grind
theorem fn30:FnOk Tryz.prog 30 81 [4] (bodyOf Tryz.f30):=⟨Tryz.f30,Tryz.func30,by kernel_rfl,by decide,by kernel_rfl,by kernel_rfl⟩
theorem s30A (m:Nat):∀ (v w:Val),SizeOf.sizeOf v < m→PSpec Tryz.prog 30 [.d (encV v),.d (encV w)] (.d (.bool (sameV v w))):=by
 induction m with
 | zero=>intros;omega
 | succ m ih=>
  rintro ⟨kd,it,tx,xs,ns⟩ ⟨kd2,it2,tx2,ys,ms⟩ hv;refine PSpec.bd fun hbd=>?_;have hx:xs.length≤9223372036854775807:=by simpa [encVs_length] using hbd.1.2.2.2.1.1
  have hx2:ns.length≤9223372036854775807:=by simpa using hbd.1.2.2.2.2.1.1
  refine PSpec.of fn30 (by simp) fun o nk=>?_;refine wr ?_;refine u_step (g_box rfl fun o2 hb2 hk2=>?_);refine u_step (g_box rfl fun o3 hb3 hk3=>?_);have hb2_3:=(hk3 _ (by omega)).trans hb2;refine ua (u_nil (WP.seq fun K4 hK4=>?_));refine wr (uf th27 th3 hb2_3 ?_);refine ul th3 hb2_3 ?_;refine uf th27 th3 hb3 ?_;refine ul th3 hb3 ?_;refine ub (um ?_);apply gF
  ·rfl
  ·intro hg;exact pf th27 th3 hb2_3
  apply gF
  ·rfl
  ·intro hg;try simp only [hg,ct,Bt]
   exact pl th3 hb2_3
  apply gF
  ·rfl
  ·intro hg;exact pf th27 th3 hb3
  apply gF
  ·rfl
  ·intro hg;try simp only [hg,ct,Bt]
   exact pl th3 hb3
  apply gF
  ·rfl
  ·intro hg;try simp only [hg,ct,Bt]
   exact pb
  refine uO (um ?_);apply gF
  ·rfl
  ·intro hg;exact pf th27 th9 hb2_3
  apply gF
  ·rfl
  ·intro hg;try simp only [hg,ct,Bt]
   exact pl th9 hb2_3
  apply gF
  ·rfl
  ·intro hg;exact pf th27 th9 hb3
  apply gF
  ·rfl
  ·intro hg;try simp only [hg,ct,Bt]
   exact pl th9 hb3
  apply gF
  ·rfl
  ·intro hg;try simp only [hg,ct,Bt]
   exact ps
  refine uO (um ?_);apply gF
  ·rfl
  ·intro hg;exact pf th27 th25 hb2_3
  apply gF
  ·rfl
  ·intro hg;try simp only [hg,ct,Bt]
   exact pl th25 hb2_3
  apply gF
  ·rfl
  ·intro hg;try simp only [hg,ct,Bt]
   exact pn th25
  apply gF
  ·rfl
  ·intro hg;exact pf th27 th25 hb3
  apply gF
  ·rfl
  ·intro hg;try simp only [hg,ct,Bt]
   exact pl th25 hb3
  apply gF
  ·rfl
  ·intro hg;try simp only [hg,ct,Bt]
   exact pn th25
  apply gF
  ·rfl
  ·intro hg;try simp only [hg,ct,Bt]
   exact pb
  refine uO (um ?_);apply gF
  ·rfl
  ·intro hg;exact pf th27 th22 hb2_3
  apply gF
  ·rfl
  ·intro hg;try simp only [hg,ct,Bt]
   exact pl th22 hb2_3
  apply gF
  ·rfl
  ·intro hg;try simp only [hg,ct,Bt]
   exact pn th22
  apply gF
  ·rfl
  ·intro hg;exact pf th27 th22 hb3
  apply gF
  ·rfl
  ·intro hg;try simp only [hg,ct,Bt]
   exact pl th22 hb3
  apply gF
  ·rfl
  ·intro hg;try simp only [hg,ct,Bt]
   exact pn th22
  apply gF
  ·rfl
  ·intro hg;try simp only [hg,ct,Bt]
   exact pb
  refine uO ?_;refine u_nil ?_;refine wc (fun hc6=>?_) (fun hc6=>?_) <;> try simp only [Q0,Q1,Q2,Q3,Q4,Q5,Q6,Q7,Q8,ge_iff_le,gt_iff_lt] at hc6
  ·
   refine wr (ua (u_nil (WP.ret ?_)));refine ret_ok rfl ?_ (by omega) (fun t ht=>(hk3 t (by omega)).trans ((hk2 t (by omega))));clear hK4;refine congrArg D.bool (same_ne ?_).symm;intro e;simp only [Val.mk.injEq] at e;obtain ⟨rfl,rfl,rfl,rfl,rfl⟩:=e;simp at hc6
  ·
   have hq:=hc6;simp [encVs_length] at hq;obtain ⟨⟨⟨⟨q1,q2⟩,q3⟩,q4⟩,q5⟩:=hq;refine WP.skip (hK4 _ (WP.seq fun K8 hK8=>?_));refine wr (ua (u_nil (WP.block ?_)));refine WP.loopL (ι:=Nat) (fun i=>⟨al [(2,.loc nk 0),(3,.loc (nk+1) 0),(5,.d (.int .i64 i))],o3,((nk+1)+1)⟩) (fun i=>i≤xs.length∧∀ (j:Nat) (hj:j < xs.length) (hk:j < ys.length),j < i→xs[j]=ys[j]) (fun i=>xs.length - i) (fun i hA=>?_) 0 ?_ ?_
   ·
    obtain ⟨hle_i,hin_i⟩:=hA;refine WP.seq fun K10 hK10=>?_;refine wr ?_;refine um ?_;refine uf th27 th25 hb2_3 ?_;refine ul th25 hb2_3 ?_;refine un th25 ?_;refine ub ?_;refine u_nil ?_;refine wc (fun hc12=>?_) (fun hc12=>?_) <;> try simp only [Q0,Q1,Q2,Q3,Q4,Q5,Q6,Q7,Q8,ge_iff_le,gt_iff_lt] at hc12
    ·
     refine WP.skip (hK10 _ (WP.seq fun K13 hK13=>?_));refine WP.block (wd ?_);refine df th27 th25 hb2_3 ?_;refine dl th25 hb2_3 ?_;refine dm ?_
     first | refine d_step (o_ia_map rfl rfl th25 rfl th27 rfl (by omega) ⟨rfl,rfl,rfl⟩) ?_ | refine d_step (o_ia_vs rfl rfl th25 rfl th27 rfl (by omega) ⟨rfl,rfl,rfl⟩) ?_
     refine dL th27 ?_;refine df th27 th25 hb3 ?_;refine dl th25 hb3 ?_;refine dm ?_
     first | refine d_step (o_ia_map rfl rfl th25 rfl th27 rfl (by omega) ⟨rfl,rfl,rfl⟩) ?_ | refine d_step (o_ia_vs rfl rfl th25 rfl th27 rfl (by omega) ⟨rfl,rfl,rfl⟩) ?_
     refine dL th27 ?_;refine d_step (o_pcall (ih _ _ (by exact items_lt' (by omega) hv)) rfl ⟨rfl,rfl,rfl⟩) ?_;refine dN ?_;refine d_nil ?_;refine wc (fun hc15=>?_) (fun hc15=>?_) <;> try simp only [Q0,Q1,Q2,Q3,Q4,Q5,Q6,Q7,Q8,ge_iff_le,gt_iff_lt] at hc15
     ·
      refine wr (ua (u_nil (WP.ret ?_)));refine ret_ok rfl ?_ (by omega) (fun t ht=>(hk3 t (by omega)).trans ((hk2 t (by omega))));clear hK4 hK8 hK10 hK13;refine congrArg D.bool (same_ne ?_).symm;intro e;simp only [Val.mk.injEq] at e;obtain ⟨rfl,rfl,rfl,rfl,rfl⟩:=e;rw [same_refl] at hc15;cases hc15
     ·
      refine WP.skip (hK13 _ (WP.reg tabOk rfl ?_));refine um (ub (ua (u_nil ?_)));refine ⟨i+1,⟨by omega,?_⟩,by omega,?_⟩
      ·intro j hj hk h1;by_cases h2:j=i
       ·subst h2;exact same_eq.1 (by simpa using hc15)
       ·exact hin_i j hj hk (by omega)
      ·refine Le.al ?_;simp only [List.forall_mem_cons];exact ⟨rfl,rfl,cnt (by omega),by simp⟩
    ·
     refine WP.exit ?_;refine hK8 _ (WP.seq fun K17 hK17=>?_);refine wr (ua (u_nil (WP.block ?_)));refine WP.loopL (ι:=Nat) (fun j=>⟨al [(2,.loc nk 0),(3,.loc (nk+1) 0),(6,.d (.int .i64 j))],o3,((nk+1)+1)⟩) (fun j=>j≤ns.length∧∀ (a:Nat) (hj:a < ns.length) (hk:a < ms.length),a < j→ns[a]=ms[a]) (fun j=>ns.length - j) (fun j hA=>?_) 0 ?_ ?_
     ·
      obtain ⟨hle_j,hin_j⟩:=hA;refine WP.seq fun K19 hK19=>?_;refine wr ?_;refine um ?_;refine uf th27 th22 hb2_3 ?_;refine ul th22 hb2_3 ?_;refine un th22 ?_;refine ub ?_;refine u_nil ?_;refine wc (fun hc21=>?_) (fun hc21=>?_) <;> try simp only [Q0,Q1,Q2,Q3,Q4,Q5,Q6,Q7,Q8,ge_iff_le,gt_iff_lt] at hc21
      ·
       refine WP.skip (hK19 _ (WP.seq fun K22 hK22=>?_));refine WP.block (wd ?_);refine df th27 th22 hb2_3 ?_;refine dl th22 hb2_3 ?_;refine dm ?_
       refine d_step (o_ia_map rfl rfl th22 rfl th9 rfl (by omega) ⟨rfl,rfl,rfl⟩) ?_
       refine dL th9 ?_;refine df th27 th22 hb3 ?_;refine dl th22 hb3 ?_;refine dm ?_
       refine d_step (o_ia_map rfl rfl th22 rfl th9 rfl (by omega) ⟨rfl,rfl,rfl⟩) ?_
       refine dL th9 ?_;refine ds ?_;refine d_nil ?_;refine wc (fun hc24=>?_) (fun hc24=>?_) <;> try simp only [Q0,Q1,Q2,Q3,Q4,Q5,Q6,Q7,Q8,ge_iff_le,gt_iff_lt] at hc24
       ·
        refine wr (ua (u_nil (WP.ret ?_)));refine ret_ok rfl ?_ (by omega) (fun t ht=>(hk3 t (by omega)).trans ((hk2 t (by omega))));clear hK4 hK8 hK10 hK17 hK19 hK22;refine congrArg D.bool (same_ne ?_).symm;intro e;simp only [Val.mk.injEq] at e;obtain ⟨rfl,rfl,rfl,rfl,rfl⟩:=e;simp at hc24
       ·
        refine WP.skip (hK22 _ (WP.reg tabOk rfl ?_));refine um (ub (ua (u_nil ?_)));refine ⟨j+1,⟨by omega,?_⟩,by omega,?_⟩
        ·intro a ha hk h1;by_cases h2:a=j
         ·subst h2;simpa using hc24
         ·exact hin_j a ha hk (by omega)
        ·refine Le.al ?_;simp only [List.forall_mem_cons];exact ⟨rfl,rfl,cnt (by omega),by simp⟩
      ·
       refine WP.exit ?_;refine hK17 _ (wr (ua (u_nil (WP.ret ?_))));refine ret_ok rfl ?_ (by omega) (fun t ht=>(hk3 t (by omega)).trans ((hk2 t (by omega))));have e1:xs=ys:=List.ext_getElem (by omega) fun j h1 h2=>hin_i j h1 h2 (by omega);have e2:ns=ms:=List.ext_getElem (by omega) fun j h1 h2=>hin_j j h1 h2 (by omega);rw [q1,q2,q3,e1,e2,same_refl]
     ·
      simp
     ·
      refine Le.al ?_;simp only [List.forall_mem_cons];exact ⟨rfl,rfl,rfl,by simp⟩
   ·
    simp
   ·
    refine Le.al ?_;simp only [List.forall_mem_cons];exact ⟨rfl,rfl,rfl,by simp⟩
theorem s30 (v w:Val):PSpec Tryz.prog 30 [.d (encV v),.d (encV w)] (.d (.bool (sameV v w))):=s30A _ v w (Nat.lt_succ_self _)
theorem o_ia_mapG {P:Program} {Θ:Tab} {K:SV→(Nat→Option AO)→Nat→Prop} {sl:Nat→SV} {o:Nat→Option AO} {nk:Nat} {x ix:Operand} {t e:Nat} {α:Type} {i j:TI} {z:Nat} {xs:List α} {g:α→D} {k:IntKind} {m:Nat} (d0:α) (hx:ev sl x=.d (.sl z (xs.map g))) (hy:ev sl ix=.d (.int k (m:Int))) (hi:Θ t=some i) (hk:i.k=.slice e) (hj:Θ e=some j) (hz:z=j.sz) (hlt:m < xs.length) (h:K (.el (g (xs.getD m d0))) o nk):vOp P Θ (.indexAddr t x ix) ⟨sl,o,nk⟩ K:=by
 have hg:xs.getD m d0=xs[m]'hlt:=by simp [hlt]
 rw [hg] at h;exact o_ia_map hx hy hi hk hj hz hlt h
def mayD (d:Dlt):Bool:=pathV d.path && (if d.kind=1 then decide (checkV d.value=0) && decide (d.n=0) else if d.kind=2 then noneV d.value && decide (d.n=0) else if d.kind=3 then noneV d.value && decide (0≤d.n) && decide (d.n≤999) else false)
def okD (d:Dlt):Prop:=rngV d.value∧szV d.value≤1099511627776
def checkD (l:List Dlt):Int:=if 64 < l.length then 3 else if l.all mayD then 0 else 1
theorem none_le (v:Val):SV.les [.d (.agg (valCells v)),.d (.agg [.int .i64 0,.int .i64 0,.str [],.nil,.nil])] [.d (encV v),.d (encV (.mk 0 0 [] [] []))]:=by
 refine ⟨?_,?_,trivial⟩
 ·show D.le (.agg (valCells v)) (encV v);rw [encV_eq];exact D.le_refl _
 ·show D.le (.agg [.int .i64 0,.int .i64 0,.str [],.nil,.nil]) (encV (.mk 0 0 [] [] []));simp [D.le,D.les,encV,encVs]
theorem s30n (v:Val):PSpec Tryz.prog 30 [.d (.agg (valCells v)),.d (.agg [.int .i64 0,.int .i64 0,.str [],.nil,.nil])] (.d (.bool (noneV v))):=by
 have:=PSpec.le (s30 v (.mk 0 0 [] [] [])) (none_le v)
 rwa [none_same] at this
theorem fn73:FnOk Tryz.prog 73 45 [2] (bodyOf Tryz.f73):=⟨Tryz.f73,Tryz.func73,by kernel_rfl,by decide,by kernel_rfl,by kernel_rfl⟩
theorem s73 (d:Dlt) (hd:okD d):PSpec Tryz.prog 73 [.d (encD d)] (.d (.bool (mayD d))):=by
 refine PSpec.of fn73 (by simp) fun o nk=>?_;refine wr ?_;refine u_step (g_box rfl fun o2 hb2 hk2=>?_);refine ua ?_;refine u_nil ?_;refine WP.seq fun K3 hK3=>?_;refine wr ?_;refine uf th83 th22 hb2 ?_;refine ul th22 hb2 ?_;refine u_step (o_pcall (s56 _) rfl ?_);refine uN ?_;refine u_nil ?_;refine wc (fun hc5=>?_) (fun hc5=>?_) <;> try simp only [Q0,Q1,Q2,Q3,Q4,Q5,Q6,Q7,Q8,ge_iff_le,gt_iff_lt] at hc5
 ·
  refine wr (ua (u_nil (WP.ret ?_)));refine ret_ok rfl ?_ (by omega) (fun t ht=>(hk2 t (by omega)));clear hK3;refine congrArg D.bool ?_;simp only [mayD]
  grind
 ·
  refine WP.skip ?_;refine hK3 _ ?_;refine WP.seq fun K7 hK7=>?_;refine wr ?_;refine uf th83 th3 hb2 ?_;refine ul th3 hb2 ?_;refine u_nil ?_;refine WP.block ?_;refine wr ?_;refine ub ?_;refine ua ?_;refine u_nil ?_;refine wc (fun hc10=>?_) (fun hc10=>?_) <;> try simp only [Q0,Q1,Q2,Q3,Q4,Q5,Q6,Q7,Q8,ge_iff_le,gt_iff_lt] at hc10
  ·
   refine wr (uf th83 th27 hb2 ?_);refine ug th27 hb2 ?_;refine u_step (o_pcall (pv (v:=d.value) (s123 d.value hd.1 hd.2)) rfl ?_);refine ub (um ?_);apply gT
   ·rfl
   ·intro hg;exact pf th83 th3 hb2
   apply gT
   ·rfl
   ·intro hg;try simp only [hg,ct,Bt]
    exact pl th3 hb2
   apply gT
   ·rfl
   ·intro hg;try simp only [hg,ct,Bt]
    exact pb
   refine uA (ua (u_nil (WP.ret ?_)));refine ret_ok rfl ?_ (by omega) (fun t ht=>(hk2 t (by omega)));clear hK3 hK7;refine congrArg D.bool ?_;simp only [mayD]
   grind
  ·
   refine wr ?_;refine ub ?_;refine ua ?_;refine u_nil ?_;refine wc (fun hc13=>?_) (fun hc13=>?_) <;> try simp only [Q0,Q1,Q2,Q3,Q4,Q5,Q6,Q7,Q8,ge_iff_le,gt_iff_lt] at hc13
   ·
    refine wr (uf th83 th27 hb2 ?_);refine ug th27 hb2 ?_;refine u_step (o_pcall (pv (v:=d.value) (s124 d.value hd.2)) rfl ?_);refine um ?_;apply gT
    ·rfl
    ·intro hg;exact pf th83 th3 hb2
    apply gT
    ·rfl
    ·intro hg;try simp only [hg,ct,Bt]
     exact pl th3 hb2
    apply gT
    ·rfl
    ·intro hg;try simp only [hg,ct,Bt]
     exact pb
    refine uA (ua (u_nil (WP.ret ?_)));refine ret_ok rfl ?_ (by omega) (fun t ht=>(hk2 t (by omega)));clear hK3 hK7;refine congrArg D.bool ?_;simp only [mayD]
    grind
   ·
    refine wr ?_;refine ub ?_;refine ua ?_;refine u_nil ?_;refine wc (fun hc16=>?_) (fun hc16=>?_) <;> try simp only [Q0,Q1,Q2,Q3,Q4,Q5,Q6,Q7,Q8,ge_iff_le,gt_iff_lt] at hc16
    ·
     refine wr (uf th83 th27 hb2 ?_);refine ug th27 hb2 ?_;refine u_step (o_pcall (pv (v:=d.value) (s124 d.value hd.2)) rfl ?_);refine um ?_;apply gT
     ·rfl
     ·intro hg;exact pf th83 th3 hb2
     apply gT
     ·rfl
     ·intro hg;try simp only [hg,ct,Bt]
      exact pl th3 hb2
     apply gT
     ·rfl
     ·intro hg;try simp only [hg,ct,Bt]
      exact pb
     refine uA (um ?_);apply gT
     ·rfl
     ·intro hg;exact pf th83 th3 hb2
     apply gT
     ·rfl
     ·intro hg;try simp only [hg,ct,Bt]
      exact pl th3 hb2
     apply gT
     ·rfl
     ·intro hg;try simp only [hg,ct,Bt]
      exact pb
     refine uA (ua (u_nil (WP.ret ?_)));refine ret_ok rfl ?_ (by omega) (fun t ht=>(hk2 t (by omega)));clear hK3 hK7;refine congrArg D.bool ?_;simp only [mayD]
     grind
    ·
     refine WP.skip (hK7 _ (wr (ua (u_nil (WP.ret ?_)))));refine ret_ok rfl ?_ (by omega) (fun t ht=>(hk2 t (by omega)));clear hK3 hK7;refine congrArg D.bool ?_;simp only [mayD]
     grind
theorem fn79:FnOk Tryz.prog 79 46 [2] (bodyOf Tryz.f79):=⟨Tryz.f79,Tryz.func79,by kernel_rfl,by decide,by kernel_rfl,by kernel_rfl⟩
theorem s79 (d:Dlt) (hd:okD d):PSpec Tryz.prog 79 [.d (encD d)] (.d (.bool (mayD d))):=by
 refine PSpec.of fn79 (by simp) fun o nk=>?_;refine wr ?_;refine u_step (g_box rfl fun o2 hb2 hk2=>?_);refine ua ?_;refine u_nil ?_;refine WP.seq fun K3 hK3=>?_;refine wr ?_;refine uf th83 th22 hb2 ?_;refine ul th22 hb2 ?_;refine u_step (o_pcall (s58 _) rfl ?_);refine uN ?_;refine u_nil ?_;refine wc (fun hc5=>?_) (fun hc5=>?_) <;> try simp only [Q0,Q1,Q2,Q3,Q4,Q5,Q6,Q7,Q8,ge_iff_le,gt_iff_lt] at hc5
 ·
  refine wr (ua (u_nil (WP.ret ?_)));refine ret_ok rfl ?_ (by omega) (fun t ht=>(hk2 t (by omega)));clear hK3;refine congrArg D.bool ?_;simp only [mayD]
  grind
 ·
  refine WP.skip ?_;refine hK3 _ ?_;refine wr ?_;refine uf th83 th27 hb2 ?_;refine ug th27 hb2 ?_;refine u_step (o_bu rfl th27 rfl rfl ?_);refine u_step (o_pcall (s30n d.value) rfl ?_);refine ua ?_;refine u_nil ?_;refine WP.seq fun K8 hK8=>?_;refine wr ?_;refine uf th83 th3 hb2 ?_;refine ul th3 hb2 ?_;refine u_nil ?_;refine WP.block ?_;refine wr ?_;refine ub ?_;refine ua ?_;refine u_nil ?_;refine wc (fun hc11=>?_) (fun hc11=>?_) <;> try simp only [Q0,Q1,Q2,Q3,Q4,Q5,Q6,Q7,Q8,ge_iff_le,gt_iff_lt] at hc11
  ·
   refine wr (uf th83 th27 hb2 ?_);refine ug th27 hb2 ?_;refine u_step (o_pcall (pv (v:=d.value) (s66 d.value hd.1 hd.2)) rfl ?_);refine ub (um ?_);apply gT
   ·rfl
   ·intro hg;exact pf th83 th3 hb2
   apply gT
   ·rfl
   ·intro hg;try simp only [hg,ct,Bt]
    exact pl th3 hb2
   apply gT
   ·rfl
   ·intro hg;try simp only [hg,ct,Bt]
    exact pb
   refine uA (ua (u_nil (WP.ret ?_)));refine ret_ok rfl ?_ (by omega) (fun t ht=>(hk2 t (by omega)));clear hK3 hK8;refine congrArg D.bool ?_;simp only [mayD]
   grind
  ·
   refine wr ?_;refine ub ?_;refine ua ?_;refine u_nil ?_;refine wc (fun hc14=>?_) (fun hc14=>?_) <;> try simp only [Q0,Q1,Q2,Q3,Q4,Q5,Q6,Q7,Q8,ge_iff_le,gt_iff_lt] at hc14
   ·
    refine wr (um (um ?_));apply gT
    ·rfl
    ·intro hg;exact pf th83 th3 hb2
    apply gT
    ·rfl
    ·intro hg;try simp only [hg,ct,Bt]
     exact pl th3 hb2
    apply gT
    ·rfl
    ·intro hg;try simp only [hg,ct,Bt]
     exact pb
    refine uA (ua (u_nil (WP.ret ?_)));refine ret_ok rfl ?_ (by omega) (fun t ht=>(hk2 t (by omega)));clear hK3 hK8;refine congrArg D.bool ?_;simp only [mayD]
    grind
   ·
    refine wr ?_;refine ub ?_;refine ua ?_;refine u_nil ?_;refine wc (fun hc17=>?_) (fun hc17=>?_) <;> try simp only [Q0,Q1,Q2,Q3,Q4,Q5,Q6,Q7,Q8,ge_iff_le,gt_iff_lt] at hc17
    ·
     refine wr (um (um ?_));apply gT
     ·rfl
     ·intro hg;exact pf th83 th3 hb2
     apply gT
     ·rfl
     ·intro hg;try simp only [hg,ct,Bt]
      exact pl th3 hb2
     apply gT
     ·rfl
     ·intro hg;try simp only [hg,ct,Bt]
      exact pb
     refine uA (um ?_);apply gT
     ·rfl
     ·intro hg;exact pf th83 th3 hb2
     apply gT
     ·rfl
     ·intro hg;try simp only [hg,ct,Bt]
      exact pl th3 hb2
     apply gT
     ·rfl
     ·intro hg;try simp only [hg,ct,Bt]
      exact pb
     refine uA (ua (u_nil (WP.ret ?_)));refine ret_ok rfl ?_ (by omega) (fun t ht=>(hk2 t (by omega)));clear hK3 hK8;refine congrArg D.bool ?_;simp only [mayD]
     grind
    ·
     refine WP.skip (hK8 _ (wr (ua (u_nil (WP.ret ?_)))));refine ret_ok rfl ?_ (by omega) (fun t ht=>(hk2 t (by omega)));clear hK3 hK8;refine congrArg D.bool ?_;simp only [mayD]
     grind
theorem fn122:FnOk Tryz.prog 122 6 [2] (bodyOf Tryz.f122):=⟨Tryz.f122,Tryz.func122,by kernel_rfl,by decide,by kernel_rfl,by kernel_rfl⟩
theorem s122 (d:Dlt) (hd:okD d):PSpec Tryz.prog 122 [.d (encD d)] (.d (.bool (!mayD d))):=by
 refine PSpec.of fn122 (by simp) fun o nk=>?_;refine wr ?_;refine u_step (g_box rfl fun o2 hb2 hk2=>?_);refine ua (u_nil (wr (ug th83 hb2 ?_)));refine u_step (o_pcall (s73 d hd) rfl ?_);refine uN (ua (u_nil (WP.ret ?_)));refine ret_ok rfl ?_ (by omega) (fun t ht=>(hk2 t (by omega)));rfl
theorem fn72:FnOk Tryz.prog 72 10 [2] (bodyOf Tryz.f72):=⟨Tryz.f72,Tryz.func72,by kernel_rfl,by decide,by kernel_rfl,by kernel_rfl⟩
theorem s72 (l:List Dlt) (hl:l.length≤64→∀ d∈l,okD d):PSpec Tryz.prog 72 [.d (.sl 8 (l.map encD))] (.d (.int .i64 (checkD l))):=by
 refine PSpec.of fn72 (by simp) fun o nk=>?_;refine wr ?_;refine ua ?_;refine u_nil ?_;refine WP.seq fun K2 hK2=>?_;refine WP.block ?_;refine wr ?_;refine um ?_;refine un th28 ?_;refine ub ?_;refine ua ?_;refine u_nil ?_;refine wc (fun hc4=>?_) (fun hc4=>?_) <;> try simp only [Q0,Q1,Q2,Q3,Q4,Q5,Q6,Q7,Q8,ge_iff_le,gt_iff_lt] at hc4
 ·
  refine wr (ua (u_nil (WP.ret ?_)));refine ret_ok rfl ?_ (by omega) (fun _ _=>rfl);clear hK2;refine congrArg (D.int .i64) ?_
  try simp only [any_not] at hc4
  simp only [checkD]
  grind
 ·
  refine wr ?_;refine um ?_;refine u_step (o_scall (s121 l 122 [] [] (fun d=>!mayD d) (fun x hx=>s122 x (hl (by omega) x hx) _ _)) rfl ?_);refine ua ?_;refine u_nil ?_;refine wc (fun hc7=>?_) (fun hc7=>?_) <;> try simp only [Q0,Q1,Q2,Q3,Q4,Q5,Q6,Q7,Q8,ge_iff_le,gt_iff_lt] at hc7
  ·
   refine wr (ua (u_nil (WP.ret ?_)));refine ret_ok rfl ?_ (by omega) (fun _ _=>rfl);clear hK2;refine congrArg (D.int .i64) ?_
   try simp only [any_not] at hc4 hc7
   simp only [checkD]
   grind
  ·
   refine WP.skip (hK2 _ (wr (ua (u_nil (WP.ret ?_)))));refine ret_ok rfl ?_ (by omega) (fun _ _=>rfl);clear hK2;refine congrArg (D.int .i64) ?_
   try simp only [any_not] at hc4 hc7
   simp only [checkD]
   grind
theorem fn31:FnOk Tryz.prog 31 19 [2] (bodyOf Tryz.f31):=⟨Tryz.f31,Tryz.func31,by kernel_rfl,by decide,by kernel_rfl,by kernel_rfl⟩
theorem s31 (l:List Dlt) (hl:l.length≤64→∀ d∈l,okD d):PSpec Tryz.prog 31 [.d (.sl 8 (l.map encD))] (.d (.int .i64 (checkD l))):=by
 refine PSpec.bd fun hbd=>?_;have hx:l.length≤9223372036854775807:=by simpa using hbd.1.1
 refine PSpec.of fn31 (by simp) fun o nk=>?_;refine wr ?_;refine ua ?_;refine u_nil ?_;refine WP.seq fun K2 hK2=>?_;refine wr ?_;refine um ?_;refine un th28 ?_;refine ub ?_;refine u_nil ?_;refine wc (fun hc4=>?_) (fun hc4=>?_) <;> try simp only [Q0,Q1,Q2,Q3,Q4,Q5,Q6,Q7,Q8,ge_iff_le,gt_iff_lt] at hc4
 ·
  refine wr (ua (u_nil (WP.ret ?_)));refine ret_ok rfl ?_ (by omega) (fun _ _=>rfl);refine congrArg (D.int .i64) ?_;simp only [checkD];clear hK2
  grind
 ·
  refine WP.skip (hK2 _ (WP.seq fun K6 hK6=>?_));refine wr (ua (u_nil (WP.block ?_)));refine WP.loopL (ι:=Nat) (fun i=>⟨al [(0,.d (.sl 8 (l.map encD))),(3,.d (.int .i64 i))],o,nk⟩) (fun i=>i≤l.length∧(l.take i).all mayD=true) (fun i=>l.length - i) (fun i hA=>?_) 0 ?_ ?_
  ·
   obtain ⟨hle_i,hin_i⟩:=hA;refine WP.seq fun K8 hK8=>?_;refine wr ?_;refine um ?_;refine um ?_;refine un th28 ?_;refine ub ?_;refine u_nil ?_;refine wc (fun hc10=>?_) (fun hc10=>?_) <;> try simp only [Q0,Q1,Q2,Q3,Q4,Q5,Q6,Q7,Q8,ge_iff_le,gt_iff_lt] at hc10
   ·
    refine WP.skip (hK8 _ (WP.seq fun K11 hK11=>?_));refine WP.block (wr (um (um ?_)))
    refine u_step (o_ia_map rfl rfl th28 rfl th83 rfl (by omega) ?_)
    refine uL th83 ?_;refine u_step (o_pcall (s79 l[i] (hl (by omega) _ (List.getElem_mem _))) rfl ?_);refine uN ?_;refine u_nil ?_;refine wc (fun hc13=>?_) (fun hc13=>?_) <;> try simp only [Q0,Q1,Q2,Q3,Q4,Q5,Q6,Q7,Q8,ge_iff_le,gt_iff_lt] at hc13
    ·
     refine wr (ua (u_nil (WP.ret ?_)));refine ret_ok rfl ?_ (by omega) (fun _ _=>rfl);have h1:=all_false (p:=mayD) (by omega:i < l.length) (by simpa using hc13);refine congrArg (D.int .i64) ?_;simp only [checkD,h1]
     grind
    ·
     refine WP.skip (hK11 _ (WP.reg tabOk rfl ?_));refine um (ub (ua (u_nil ?_)));refine ⟨i+1,⟨by omega,?_⟩,by omega,?_⟩
     ·rw [all_snoc (by omega),hin_i];simpa using hc13
     ·refine Le.al ?_;simp only [List.forall_mem_cons];exact ⟨rfl,cnt (by omega),by simp⟩
   ·
    refine WP.exit ?_;refine hK6 _ (wr (ua (u_nil (WP.ret ?_))));refine ret_ok rfl ?_ (by omega) (fun _ _=>rfl);have h1:=all_true (by omega) hin_i;refine congrArg (D.int .i64) ?_;simp only [checkD,h1]
    grind
  ·
   simp
  ·
   refine Le.al ?_;simp only [List.forall_mem_cons];exact ⟨rfl,rfl,by simp⟩
def cmpI (a b:Int):Int:=if a < b then -1 else if b < a then 1 else 0
def orI:List Int→Int
 | []=>0
 | x :: r=>if x=0 then orI r else x
def idxS (ns:List Str) (s:Str):Int:=firstI (fun x=>decide (s=x)) ns
theorem fn183:FnOk Tryz.prog 183 19 [4] (bodyOf Tryz.f183):=⟨Tryz.f183,Tryz.func183,by kernel_rfl,by decide,by kernel_rfl,by kernel_rfl⟩
theorem s183 (ns:List Str) (s:Str):PSpec Tryz.prog 183 [.d (.sl 1 (ns.map .str)),.d (.str s)] (.d (.int .i64 (idxS ns s))):=by
 refine PSpec.bd fun hbd=>?_;have hx:ns.length≤9223372036854775807:=by simpa using hbd.1.1
 refine PSpec.of fn183 (by simp) fun o nk=>?_;refine wr (ua (u_nil (WP.seq fun K2 hK2=>?_)));refine wr (um (un th22 ?_));refine um (u_nil (WP.block ?_));refine WP.loopL (ι:=Nat) (fun i=>⟨al [(0,.d (.sl 1 (ns.map .str))),(1,.d (.str s)),(7,.d (.int .i64 (ns.map D.str).length)),(8,.d (.int .i64 i))],o,nk⟩) (fun i=>i≤ns.length∧∀ (j:Nat) (hj:j < ns.length),j < i→decide (s=ns[j])=false) (fun i=>ns.length - i) (fun i hA=>?_) 0 ?_ ?_
 ·
  obtain ⟨hle_i,hin_i⟩:=hA;refine wr ?_;refine ub ?_;refine u_nil ?_;refine WP.seq fun K5 hK5=>?_;refine wc (fun hc6=>?_) (fun hc6=>?_) <;> try simp only [Q0,Q1,Q2,Q3,Q4,Q5,Q6,Q7,Q8,ge_iff_le,gt_iff_lt] at hc6
  ·
   refine WP.skip (hK5 _ (WP.seq fun K7 hK7=>?_));refine WP.block (wr (um (ua (u_nil (wr (um (um (um ?_))))))))
   refine u_step (o_ia_map rfl rfl th22 rfl th9 rfl (by omega) ?_)
   refine uL th9 ?_;refine us ?_;refine u_nil ?_;refine wc (fun hc10=>?_) (fun hc10=>?_) <;> try simp only [Q0,Q1,Q2,Q3,Q4,Q5,Q6,Q7,Q8,ge_iff_le,gt_iff_lt] at hc10
   ·
    refine wr (um (ua (u_nil (WP.ret ?_))));refine ret_ok rfl ?_ (by omega) (fun _ _=>rfl);rw [idxS,firstI_at (p:=fun x=>decide (s=x)) (xs:=ns) (i:=i) (by omega) (decide_eq_true hc10) hin_i]
   ·
    refine WP.skip (hK7 _ (WP.reg tabOk rfl ?_));refine ub (um (u_nil ?_));refine ⟨i+1,⟨by omega,?_⟩,by omega,?_⟩
    ·intro j hj h1;by_cases h2:j=i
     ·subst h2;exact decide_eq_false hc10
     ·exact hin_i j hj (by omega)
    ·refine Le.al ?_;simp only [List.forall_mem_cons];exact ⟨rfl,rfl,rfl,cnt (by omega),by simp⟩
  ·
   refine WP.exit ?_;refine hK2 _ (wr (ua (u_nil (WP.ret ?_))));refine ret_ok rfl ?_ (by omega) (fun _ _=>rfl);rw [idxS,firstI_none (p:=fun x=>decide (s=x)) (xs:=ns) fun j hj=>hin_i j hj (by omega)]
 ·
  simp
 ·
  refine Le.al ?_;simp only [List.forall_mem_cons];exact ⟨rfl,rfl,rfl,rfl,by simp⟩
theorem fn155:FnOk Tryz.prog 155 18 [4] (bodyOf Tryz.f155):=⟨Tryz.f155,Tryz.func155,by kernel_rfl,by decide,by kernel_rfl,by kernel_rfl⟩
theorem s155 (v:Val) (p:List Str):PSpec Tryz.prog 155 [.d (encV v),.d (.sl 1 (p.map .str))] (.d (.int .i64 (if v.kind≠7∨mayV v=false then 20 else if pathV p then 0 else 40))):=by
 obtain ⟨kd,it,tx,xs,ns⟩:=v;refine PSpec.of fn155 (by simp) fun o nk=>?_;refine wr ?_;refine u_step (g_box rfl fun o2 hb2 hk2=>?_);refine ua (u_nil (WP.seq fun K3 hK3=>?_));refine WP.block (wr (uf th27 th3 hb2 ?_));refine ul th3 hb2 ?_;refine ub (um ?_);apply gF
 ·rfl
 ·intro hg;exact pg th27 hb2
 apply gF
 ·rfl
 ·intro hg;try simp only [hg,ct,Bt]
  refine o_pcall (s76 (.mk kd it tx xs ns)) rfl ⟨rfl,rfl,rfl⟩
 apply gF
 ·rfl
 ·intro hg;try simp only [hg,ct,Bt]
  exact pN
 refine uO ?_;refine ua ?_;refine u_nil ?_;refine wc (fun hc5=>?_) (fun hc5=>?_) <;> try simp only [Q0,Q1,Q2,Q3,Q4,Q5,Q6,Q7,Q8,ge_iff_le,gt_iff_lt] at hc5
 ·
  refine wr (ua (u_nil (WP.ret ?_)));refine ret_ok rfl ?_ (by omega) (fun t ht=>(hk2 t (by omega)));clear hK3;refine congrArg (D.int .i64) ?_;simp only [Val.kind]
  grind
 ·
  refine wr ?_;refine um ?_;refine u_step (o_pcall (s56 _) rfl ?_);refine uN ?_;refine ua ?_;refine u_nil ?_;refine wc (fun hc8=>?_) (fun hc8=>?_) <;> try simp only [Q0,Q1,Q2,Q3,Q4,Q5,Q6,Q7,Q8,ge_iff_le,gt_iff_lt] at hc8
  ·
   refine wr (ua (u_nil (WP.ret ?_)));refine ret_ok rfl ?_ (by omega) (fun t ht=>(hk2 t (by omega)));clear hK3;refine congrArg (D.int .i64) ?_;simp only [Val.kind]
   grind
  ·
   refine WP.skip (hK3 _ (wr (ua (u_nil (WP.ret ?_)))));refine ret_ok rfl ?_ (by omega) (fun t ht=>(hk2 t (by omega)));clear hK3;refine congrArg (D.int .i64) ?_;simp only [Val.kind]
   grind
def fieldsV (k:Int):Int:=if k=1 then 0 else if k=7 then 3 else if k=2 then 13 else if k=4 then 5 else if k=3 then 21 else if k=5∨k=6 then 1 else -1
theorem retT_ok {ts:List Nat} {sl:Nat→SV} {o o0:Nat→Option AO} {nk nk0:Nat} {xs:List D} (h1:resOf ts ⟨sl,o,nk⟩=.tup (xs.map .d)) (h3:nk0≤nk) (h4:∀ t,t < nk0→o t=o0 t) :
 retQ ts (fun r o' nk'=>r=.tup (xs.map .d)∧nk0≤nk'∧∀ t,t < nk0→o' t=o0 t) .ret ⟨sl,o,nk⟩:=⟨h1,h3,h4⟩
theorem PSpec.of2C {P:Program} {Θ:Tab} (hΘ:TabOk P Θ) {f:FuncId} {n:Nat} {rs:List ResultVar} {c:Code} {args:List SV} {xs:List D} (hf:FnOkC P f n rs c) (hn:args.length≤n)
    (h:∀ o nk,WP P n nk c ⟨slots args,o,nk⟩ (retC Θ rs fun r o' nk'=>r=.tup (xs.map .d)∧nk≤nk'∧∀ t,t < nk→o' t=o t)):PSpec P f args (.tup (xs.map .d)):=fun o nk=>by
  refine Spec.pure (fun m=>?_) ?_ (Spec.of_bodyC hΘ hf hn (h o nk))
  · exact lts_of fun i c hc=>by
      rw [List.getElem?_map] at hc;obtain ⟨d,_,rfl⟩:=Option.map_eq_some_iff.1 hc;trivial
  · show SV.tup (SV.rens id (xs.map .d))=_;rw [SV.rens_id]
theorem retC_ok {Θ:Tab} {a t b:Nat} {sl:Nat→SV} {o o0:Nat→Option AO} {nk nk0:Nat} {x y x' y':D} (h1:ResIs Θ ⟨sl,o,nk⟩ (.cell a t) (.d x')) (h2:sl b=.d y') (hx:x'=x) (hy:y'=y) (h3:nk0≤nk) (h4:∀ t,t < nk0→o t=o0 t) :
    retC Θ [.cell a t,.tmp b] (fun r o' nk'=>r=.tup ([x,y].map .d)∧nk0≤nk'∧∀ t,t < nk0→o' t=o0 t) .ret ⟨sl,o,nk⟩:=
  ⟨[.d x',.d y'],⟨h1,h2.symm,trivial⟩,by rw [hx,hy];rfl,h3,h4⟩
def digN:Str→Nat→Nat
 | [],n=>n
 | c :: s,n=>digN s (10 * n+(c.toNat - 48))
def isDig (c:UInt8):Bool:=decide (48≤c.toNat) && decide (c.toNat≤57)
def stepI (s:Str):Int:=if s.length < 1∨3 < s.length∨(s[0]?=some 48∧1 < s.length) then -1 else if s.all isDig then (digN s 0:Int) else -1
theorem digN_snoc:∀ (s:Str) (c:UInt8) (n:Nat),digN (s++[c]) n=10 * digN s n+(c.toNat - 48)
 | [],c,n=>rfl
 | x :: s,c,n=>by simp only [List.cons_append,digN];exact digN_snoc s c _
theorem digN_lt:∀ (s:Str) (n m:Nat),s.all isDig=true→n < 10 ^ m→digN s n < 10 ^ (m+s.length)
 | [],n,m,_,hn=>hn
 | c :: s,n,m,h,hn=>by
  simp only [List.all_cons,Bool.and_eq_true,isDig,decide_eq_true_eq] at h;have h1:10 * n+(c.toNat - 48) < 10 ^ (m+1):=by rw [Nat.pow_succ];omega
  have:=digN_lt s (10 * n+(c.toNat - 48)) (m+1) (by simpa [isDig] using h.2) h1;simp only [digN,List.length_cons]
  rwa [show m+(s.length+1)=m+1+s.length by omega]
theorem digN_le {s:Str} (h:s.all isDig=true) (hl:s.length≤3):digN s 0 < 1000:=by
 have:=digN_lt s 0 0 h (by simp);have h2:10 ^ (0+s.length)≤10 ^ 3:=Nat.pow_le_pow_right (by omega) (by omega);omega
theorem dig_step {n:Nat} {c:UInt8} (hn:n < 1000) (h1:48≤c.toNat):SV.d (.int .i64 (IntKind.i64.wrap (IntKind.i64.wrap (10 * (n:Int))+IntKind.i64.wrap (IntKind.u8.wrap ((c.toNat:Int) - 48)))))=SV.d (.int .i64 ((10 * n+(c.toNat - 48):Nat):Int)):=by
 have hc:c.toNat < 256:=c.toNat_lt;rw [wrap_u8,wrap_i64 (m:=10 * (n:Int)) (by omega) (by omega),wrap_i64 (m:=((c.toNat:Int) - 48) % 256) (by omega) (by omega),wrap_i64 (by omega) (by omega)];refine congrArg (fun m:Int=>SV.d (.int .i64 m)) ?_;omega
theorem stepI_neg {s:Str} (h1:1≤s.length) (h3:s.length≤3) {a b:Bool} (hq:(a || b)=false∧(decide (bAt s (0:Int).toNat=48) && decide ((1:Int) < s.length))=false):stepI s=if s.all isDig then (digN s 0:Int) else -1:=by
 have h0:0 < s.length:=by omega
 unfold stepI;rw [if_neg];rintro (h | h | ⟨h,h2⟩)
 ·omega
 ·omega
 ·have hq2:=hq.2;rw [List.getElem?_eq_getElem h0,Option.some.injEq] at h;rw [Int.toNat_zero,bAt_eq h0,h] at hq2;simp at hq2;omega
theorem fn136:FnOk Tryz.prog 136 48 [2] (bodyOf Tryz.f136):=⟨Tryz.f136,Tryz.func136,by kernel_rfl,by decide,by kernel_rfl,by kernel_rfl⟩
theorem s136 (s:Str):PSpec Tryz.prog 136 [.d (.str s)] (.d (.int .i64 (stepI s))):=by
 refine PSpec.of fn136 (by simp) fun o nk=>?_;refine wr (ua (u_nil (WP.seq fun K2 hK2=>?_)));refine wr (um ?_);refine u_step (o_len_str rfl th9 rfl ?_);refine ub (um ?_);apply gF
 ·rfl
 ·intro hg;exact pm
 apply gF
 ·rfl
 ·intro hg;try simp only [hg,ct,Bt]
  refine o_len_str rfl th9 rfl ⟨rfl,rfl,rfl⟩
 apply gF
 ·rfl
 ·intro hg;try simp only [hg,ct,Bt]
  exact pb
 refine uO (um ?_);apply gF
 ·rfl
 ·intro hg;exact pm
 apply gF
 ·rfl
 ·intro hg;try simp only [hg,ct,Bt]
  have hg2:=hg;try simp only [Q0,Q1,Q2,Q3,Q4,Q5,Q6,Q9,Qa,Qb,Qc,Qd] at hg2
  refine o_ix rfl rfl th9 rfl ?_ ?_ ⟨rfl,rfl,rfl⟩
  ·decide
  ·simp at hg2;simp;omega
 apply gF
 ·rfl
 ·intro hg;try simp only [hg,ct,Bt]
  exact pb
 apply gF
 ·rfl
 ·intro hg;try simp only [hg,ct,Bt]
  exact pm
 apply u_guard
 ·exact GC.ct _ _
 ·intro hg;exact pm
 apply u_guard
 ·exact GC.ct _ _
 ·intro hg;try simp only [hg,ct,Bt]
  refine o_len_str rfl th9 rfl ⟨rfl,rfl,rfl⟩
 apply u_guard
 ·exact GC.ct _ _
 ·intro hg;try simp only [hg,ct,Bt]
  exact pb
 apply gF
 ·rfl
 ·intro hg;try simp only [hg,ct,Bt]
  exact pA
 refine uO ?_;refine u_nil ?_;refine wc (fun hc4=>?_) (fun hc4=>?_) <;> try simp only [Q0,Q1,Q2,Q3,Q4,Q5,Q6,Q7,Q8,ge_iff_le,gt_iff_lt] at hc4
 ·
  refine wr (ua (u_nil (WP.ret ?_)));refine ret_ok rfl ?_ (by omega) (fun _ _=>rfl);clear hK2;refine congrArg (D.int .i64) ?_;have hq:=hc4;simp only [stepI];rw [if_pos];simp only [Bool.or_eq_true,Bool.and_eq_true,decide_eq_true_eq,beq_iff_eq] at hq;rcases hq with (h | h) | ⟨h,h2⟩
  ·exact .inl (by omega)
  ·exact .inr (.inl (by omega))
  ·refine .inr (.inr ⟨?_,by omega⟩);have h0:0 < s.length:=by omega
   rw [Int.toNat_zero,bAt_eq h0] at h;rw [List.getElem?_eq_getElem h0,(toNat_eq (n:=48) (by omega)).1 h];rfl
 ·
  have hq:=Bool.or_eq_false_iff.1 hc4;have hq1:=Bool.or_eq_false_iff.1 hq.1;have hl1:1≤s.length:=by have:=hq1.1;simp at this;omega
  have hl3:s.length≤3:=by have:=hq1.2;simp at this;omega
  refine WP.skip (hK2 _ (wr (ua (u_nil (WP.seq fun K7 hK7=>?_)))));refine wr (ua (u_nil (WP.block ?_)));refine WP.loopL (ι:=Nat) (fun i=>⟨al [(0,.d (.str s)),(3,.d (.int .i64 (digN (s.take i) 0:Nat))),(4,.d (.int .i64 i))],o,nk⟩) (fun i=>i≤s.length∧(s.take i).all isDig=true) (fun i=>s.length - i) (fun i hA=>?_) 0 ?_ ?_
  ·
   obtain ⟨hle_i,hin_i⟩:=hA;refine WP.seq fun K9 hK9=>?_;refine wr ?_;refine um ?_;refine um ?_;refine u_step (o_len_str rfl th9 rfl ?_);refine ub ?_;refine u_nil ?_;refine wc (fun hc11=>?_) (fun hc11=>?_) <;> try simp only [Q0,Q1,Q2,Q3,Q4,Q5,Q6,Q7,Q8,ge_iff_le,gt_iff_lt] at hc11
   ·
    refine WP.skip (hK9 _ (WP.seq fun K12 hK12=>?_));refine WP.block (WP.seq fun K13 hK13=>?_);refine wr (um (um ?_));refine u_step (o_ix rfl rfl th9 rfl ?_ ?_ ?_)
    ·first | exact Int.natCast_nonneg _ | decide
    ·first | assumption | (simp;omega) | omega
    refine ub (um ?_);apply gF
    ·rfl
    ·intro hg;exact pm
    apply gF
    ·rfl
    ·intro hg;exact pm
    apply gF
    ·rfl
    ·intro hg;try simp only [hg,ct,Bt]
     have hg2:=hg;try simp only [Q0,Q1,Q2,Q3,Q4,Q5,Q6,Q9,Qa,Qb,Qc,Qd] at hg2
     refine o_ix rfl rfl th9 rfl ?_ ?_ ⟨rfl,rfl,rfl⟩
     ·first | exact Int.natCast_nonneg _ | decide
     ·first | assumption | (simp;omega) | omega
    apply gF
    ·rfl
    ·intro hg;try simp only [hg,ct,Bt]
     exact pb
    refine uO ?_;refine u_nil ?_;refine wc (fun hc15=>?_) (fun hc15=>?_) <;> try simp only [Q0,Q1,Q2,Q3,Q4,Q5,Q6,Q7,Q8,ge_iff_le,gt_iff_lt] at hc15
    ·
     refine wr (ua (u_nil (WP.ret ?_)));refine ret_ok rfl ?_ (by omega) (fun _ _=>rfl);clear hK2 hK7 hK9 hK12 hK13;have hn:=stepI_neg hl1 hl3 hq;have he:=bAt_eq (l:=s) (i:=i) (by omega);have hb:=hc15;simp only [Int.toNat_natCast,he,Bool.or_eq_true,decide_eq_true_eq] at hb;have hd:isDig s[i]=false:=by simp only [isDig,Bool.and_eq_false_iff,decide_eq_false_iff_not];omega
     rw [hn,if_neg (by rw [all_false (p:=isDig) (by omega) hd];simp)]
    ·
     refine WP.skip (hK13 _ (WP.reg tabOk rfl ?_));refine um (ub (um (um ?_)));refine u_step (o_ix rfl rfl th9 rfl ?_ ?_ ?_)
     ·first | exact Int.natCast_nonneg _ | decide
     ·first | assumption | (simp;omega) | omega
     refine ub (uc th5 th3 ?_);refine ub (ua (u_nil (hK12 _ (WP.reg tabOk rfl ?_))));refine um (ub (ua (u_nil ?_)));have hb:=Bool.or_eq_false_iff.1 hc15;have he:=bAt_eq (l:=s) (i:=i) (by omega);simp only [Int.toNat_natCast,he,decide_eq_false_iff_not] at hb;have hd:isDig s[i]=true:=by simp only [isDig,Bool.and_eq_true,decide_eq_true_eq];omega
     have hlt:=digN_le hin_i (by simp;omega);refine ⟨i+1,⟨by omega,by rw [all_snoc (by omega),hin_i,hd];rfl⟩,by omega,?_⟩;refine Le.al ?_;simp only [List.forall_mem_cons];refine ⟨rfl,?_,cnt (by omega),by simp⟩;rw [take_snoc (by omega),digN_snoc,← dig_step hlt (by omega),← he];rfl
   ·
    refine WP.exit ?_;refine hK7 _ (wr (um (ua (u_nil (WP.ret ?_)))));refine ret_ok rfl ?_ (by omega) (fun _ _=>rfl);clear hK2 hK7 hK9;have hn:=stepI_neg hl1 hl3 hq;have h1:=all_true (by omega) hin_i;rw [hn,if_pos h1,List.take_of_length_le (by omega)]
  ·
   simp
  ·
   refine Le.al ?_;simp only [List.forall_mem_cons];exact ⟨rfl,rfl,rfl,by simp⟩
def idxL (s:Str):List D:=if 0≤stepI s then [.int .i64 (stepI s),.bool true] else [.int .i64 0,.bool false]
theorem dec_dig {s:Str} {i:Nat} (h:i < s.length) (h2:(Utf8.decode ⟨s.toArray⟩ i).1≤57):Utf8.decode ⟨s.toArray⟩ i=((s[i]'h).toNat,1):=by
 have hs:i < (⟨s.toArray⟩:ByteArray).size:=by simpa [ByteArray.size] using h
 have hg:(⟨s.toArray⟩:ByteArray)[i]'hs=s[i]'h:=rfl;by_cases ha:(s[i]'h).toNat < 128
 ·have:=decode_ascii ⟨s.toArray⟩ i hs (by rw [hg];exact ha);rw [this,hg]
 ·have:=(decode_high ⟨s.toArray⟩ i hs (by rw [hg];omega)).1;omega
theorem dig_not {s:Str} {i:Nat} (h:i < s.length) (h2:(Utf8.decode ⟨s.toArray⟩ i).1 < 48∨57 < (Utf8.decode ⟨s.toArray⟩ i).1):isDig (s[i]'h)=false:=by
 have hs:i < (⟨s.toArray⟩:ByteArray).size:=by simpa [ByteArray.size] using h
 have hg:(⟨s.toArray⟩:ByteArray)[i]'hs=s[i]'h:=rfl;simp only [isDig,Bool.and_eq_false_iff,decide_eq_false_iff_not];by_cases ha:(s[i]'h).toNat < 128
 ·have:=decode_ascii ⟨s.toArray⟩ i hs (by rw [hg];exact ha);rw [this,hg] at h2;simp only at h2;omega
 ·omega
theorem wrap_i32 {m:Int} (h1:-2147483648≤m) (h2:m≤2147483647):IntKind.i32.wrap m=m:=by
 simp only [IntKind.wrap,IntKind.bits,IntKind.signed];simp;omega
theorem dig_step2 {n c:Nat} (hn:n < 1000) (h1:48≤c) (h2:c≤57):SV.d (.int .i64 (IntKind.i64.wrap (IntKind.i64.wrap (10 * (n:Int))+IntKind.i64.wrap (IntKind.i32.wrap ((c:Int) - 48)))))=SV.d (.int .i64 ((10 * n+(c - 48):Nat):Int)):=by
 rw [wrap_i32 (by omega) (by omega),wrap_i64 (m:=10 * (n:Int)) (by omega) (by omega),wrap_i64 (m:=(c:Int) - 48) (by omega) (by omega),wrap_i64 (by omega) (by omega)];refine congrArg (fun m:Int=>SV.d (.int .i64 m)) ?_;omega
theorem idx_no {s:Str} (h:stepI s=-1):idxL s=[.int .i64 0,.bool false]:=by
 unfold idxL;rw [if_neg (by omega)]
theorem idx_at {s:Str} {n:Nat} (h:stepI s=(n:Int)):idxL s=[.int .i64 (n:Int),.bool true]:=by
 unfold idxL;rw [if_pos (by omega),h]
theorem stepI_out {s:Str} (h:s.length < 1∨3 < s.length∨(s[0]?=some 48∧1 < s.length)):stepI s=-1:=by
 unfold stepI;rw [if_pos h]
theorem stepI_in {s:Str} (h1:1≤s.length) (h3:s.length≤3) (h:¬ (s[0]?=some 48∧1 < s.length)):stepI s=if s.all isDig then (digN s 0:Int) else -1:=by
 unfold stepI;rw [if_neg];rintro (h' | h' | h')
 ·omega
 ·omega
 ·exact h h'
theorem zero_head {s:Str} (h0:0 < s.length):bAt s (0:Int).toNat=48↔s[0]?=some 48:=by
 rw [Int.toNat_zero,bAt_eq h0,List.getElem?_eq_getElem h0,Option.some.injEq];exact toNat_eq (n:=48) (by omega)
theorem fn184:FnOk Tryz.prog 184 43 [2,3] (bodyOf Tryz.f184):=⟨Tryz.f184,Tryz.func184,by kernel_rfl,by decide,by kernel_rfl,by kernel_rfl⟩
theorem s184 (s:Str):PSpec Tryz.prog 184 [.d (.str s)] (.tup ((idxL s).map .d)):=by
 refine PSpec.of2 fn184 (by simp) fun o nk=>?_;refine wr (ua (ua (u_nil (WP.seq fun K2 hK2=>?_))));refine wr (um ?_);refine u_step (o_len_str rfl th9 rfl ?_);refine ub (um ?_);apply gF
 ·rfl
 ·intro hg;exact pm
 apply gF
 ·rfl
 ·intro hg;try simp only [hg,ct,Bt]
  refine o_len_str rfl th9 rfl ⟨rfl,rfl,rfl⟩
 apply gF
 ·rfl
 ·intro hg;try simp only [hg,ct,Bt]
  exact pb
 refine uO (um ?_);apply gF
 ·rfl
 ·intro hg;exact pm
 apply gF
 ·rfl
 ·intro hg;try simp only [hg,ct,Bt]
  refine o_len_str rfl th9 rfl ⟨rfl,rfl,rfl⟩
 apply gF
 ·rfl
 ·intro hg;try simp only [hg,ct,Bt]
  exact pb
 apply gF
 ·rfl
 ·intro hg;try simp only [hg,ct,Bt]
  exact pm
 apply u_guard
 ·exact GC.ct _ _
 ·intro hg;exact pm
 apply u_guard
 ·exact GC.ct _ _
 ·intro hg;try simp only [hg,ct,Bt]
  have hg2:=hg;try simp only [Q0,Q1,Q2,Q3,Q4,Q5,Q6,Q9,Qa,Qb,Qc,Qd] at hg2
  refine o_ix rfl rfl th9 rfl ?_ ?_ ⟨rfl,rfl,rfl⟩
  ·decide
  ·simp at hg2;simp;omega
 apply u_guard
 ·exact GC.ct _ _
 ·intro hg;try simp only [hg,ct,Bt]
  exact pb
 apply gF
 ·rfl
 ·intro hg;try simp only [hg,ct,Bt]
  exact pA
 refine uO ?_;refine u_nil ?_;refine wc (fun hc4=>?_) (fun hc4=>?_) <;> try simp only [Q0,Q1,Q2,Q3,Q4,Q5,Q6,Q7,Q8,ge_iff_le,gt_iff_lt] at hc4
 ·
  refine wr (ua (ua (u_nil (WP.ret ?_))));refine retT_ok ?_ (by omega) (fun _ _=>rfl);clear hK2;have hq:=hc4;have hs:stepI s=-1:=by
   refine stepI_out ?_;simp only [Bool.or_eq_true,Bool.and_eq_true,decide_eq_true_eq,beq_iff_eq] at hq;rcases hq with (h | h) | ⟨h2,h⟩
   ·exact .inl (by omega)
   ·exact .inr (.inl (by omega))
   ·exact .inr (.inr ⟨(zero_head (by omega)).1 h,by omega⟩)
  rw [idx_no hs];rfl
 ·
  have hq:=Bool.or_eq_false_iff.1 hc4;have hq1:=Bool.or_eq_false_iff.1 hq.1;have hl1:1≤s.length:=by have:=hq1.1;simp at this;omega
  have hl3:s.length≤3:=by have:=hq1.2;simp at this;omega
  refine WP.skip (hK2 _ (wr (ua (u_nil (WP.seq fun K7 hK7=>?_)))));refine wr (um ?_);refine u_step (g_range rfl th9 rfl fun o9 hb9 hk9=>?_);refine u_nil (WP.block ?_);refine WP.loopL (ι:=Nat×(Nat→Option AO)) (fun ⟨i,o2⟩=>⟨al [(4,.d (.int .i64 (digN (s.take i) 0:Nat))),(26,.raw nk)],o2,(nk+1)⟩) (fun ⟨i,o2⟩=>i≤s.length∧o2 nk=some (.raw (itOb s i))∧(∀ t,t < nk→o2 t=o t)∧(s.take i).all isDig=true) (fun ⟨i,o2⟩=>s.length - i) (fun ⟨i,o2⟩ hA=>?_) ⟨0,o9⟩ ?_ ?_
  ·
   obtain ⟨hle,hob,hfr,hin_i⟩:=hA;refine wr ?_;refine u_step (g_next rfl hob (fun hp11 o11 hb11 hk11=>?_) (fun hp11=>?_))
   ·
    refine ue (u_nil (WP.seq fun K12 hK12=>?_));refine WP.cond rfl (fun hc13=>?_) (fun hc13=>by cases hc13);refine WP.skip (hK12 _ (WP.block (wr (ue (ua (u_nil (WP.seq fun K15 hK15=>?_)))))));refine wr (um (ub (um ?_)));apply gF
    ·rfl
    ·intro hg;exact pm
    apply gF
    ·rfl
    ·intro hg;try simp only [hg,ct,Bt]
     exact pb
    refine uO ?_;refine u_nil ?_;refine wc (fun hc17=>?_) (fun hc17=>?_) <;> try simp only [Q0,Q1,Q2,Q3,Q4,Q5,Q6,Q7,Q8,ge_iff_le,gt_iff_lt] at hc17
    ·
     refine wr (ua (ua (u_nil (WP.ret ?_))));refine retT_ok ?_ (by omega) (fun t ht=>(hk11 t (by omega)).trans ((hfr t (by omega))));have hz:¬ (s[0]?=some 48∧1 < s.length):=by
      rintro ⟨h,h2⟩;have h3:=hq.2;rw [(zero_head (by omega)).2 h] at h3;simp at h3;omega
     have hb:=hc17;simp only [Bool.or_eq_true,decide_eq_true_eq] at hb;have hd:=dig_not (s:=s) (i:=i) (by omega) (by omega);have hs:stepI s=-1:=by rw [stepI_in hl1 hl3 hz,if_neg (by rw [all_false (p:=isDig) (by omega) hd];simp)]
     rw [idx_no hs];rfl
    ·
     refine WP.skip (hK15 _ (WP.reg tabOk rfl ?_));refine um (ub (um (ub (uc th21 th3 ?_))));refine ub (ua (u_nil ?_));have hb:=Bool.or_eq_false_iff.1 hc17;simp only [decide_eq_false_iff_not] at hb;have hdd:=dec_dig (s:=s) (i:=i) (by omega) (by omega);have hlt:=digN_le hin_i (by simp;omega);have h9:=dig_step2 (n:=digN (s.take i) 0) (c:=(Utf8.decode ⟨s.toArray⟩ i).1) hlt (by omega) (by omega);have hd1:s[i].toNat=(Utf8.decode ⟨s.toArray⟩ i).1:=by rw [hdd]
     refine ⟨⟨i+1,o11⟩,⟨by omega,?_,(fun t ht=>(hk11 t (by omega)).trans ((hfr t (by omega)))),?_⟩,by simp only;omega,?_⟩
     ·have hft:=hb11;rw [hdd] at hft;exact hft
     ·rw [all_snoc (by omega),hin_i];simp only [isDig,Bool.true_and,Bool.and_eq_true,decide_eq_true_eq];omega
     ·refine Le.al ?_;simp only [List.forall_mem_cons];refine ⟨?_,rfl,by simp⟩;rw [take_snoc (by omega),digN_snoc,hd1,← h9];rfl
   ·
    refine ue (u_nil (WP.seq fun K19 hK19=>?_));refine WP.cond rfl (fun hc20=>by cases hc20) (fun hc20=>?_);refine WP.exit ?_;refine hK7 _ (wr (um (ua (ua (u_nil (WP.ret ?_))))));refine retT_ok ?_ (by omega) (fun t ht=>(hfr t (by omega)));have hz:¬ (s[0]?=some 48∧1 < s.length):=by
     rintro ⟨h,h2⟩;have h3:=hq.2;rw [(zero_head (by omega)).2 h] at h3;simp at h3;omega
    have h1:=all_true (by omega) hin_i;have hs:stepI s=(digN (s.take i) 0:Int):=by rw [stepI_in hl1 hl3 hz,if_pos h1,List.take_of_length_le (by omega)]
    rw [idx_at hs];rfl
  ·
   refine ⟨by simp,hb9,(fun t ht=>(hk9 t (by omega))),by simp⟩
  ·
   refine Le.al ?_;simp only [List.forall_mem_cons];exact ⟨rfl,rfl,by simp⟩
theorem cmpI_zero {a b:Int}:cmpI a b=0↔a=b:=by unfold cmpI;split <;> (try split) <;> omega
theorem orI_zero {x:Int} {r:List Int}:orI (x :: r)=0↔x=0∧orI r=0:=by
 simp only [orI];split <;> simp_all
theorem cmpB_zero:∀ {s t:Str},Go.Lib.compareBytes s t=0↔s=t
 | [],[]=>by simp [Go.Lib.compareBytes]
 | [],_ :: _=>by simp [Go.Lib.compareBytes]
 | _ :: _,[]=>by simp [Go.Lib.compareBytes]
 | a :: s,b :: t=>by
  have ih:=cmpB_zero (s:=s) (t:=t);simp only [Go.Lib.compareBytes,List.cons.injEq];by_cases h1:a < b
  ·have:a≠b:=fun e=>by subst e;exact UInt8.lt_irrefl _ h1
   simp [h1,this]
  ·by_cases h2:b < a
   ·have:a≠b:=fun e=>by subst e;exact UInt8.lt_irrefl _ h2
    simp [h1,h2,this]
   ·have:a=b:=UInt8.le_antisymm (UInt8.not_lt.1 h2) (UInt8.not_lt.1 h1);simp [h1,h2,this,ih]
mutual
def cmpV:Val→Val→Int
 | .mk k i t xs ns,w=>orI [cmpI k w.kind,cmpI i w.int,Go.Lib.compareBytes t w.text,cmpsV xs (decide (k=7)) w.items ns w.names]
def cmpsV:List Val→Bool→List Val→List Str→List Str→Int
 | [],_,ys,_,_=>cmpI 0 ys.length
 | x :: xs,doc,ys,ns,ms=>match ys with
  | []=>1
  | y :: ys=>orI [if doc=true then Go.Lib.compareBytes (ns.headD []) (ms.headD []) else 0,cmpV x y,cmpsV xs doc ys ns.tail ms.tail]
end
mutual
theorem cmpV_refl:∀ v,cmpV v v=0
 | .mk k i t xs ns=>by
  have h:=cmpsV_refl xs (decide (k=7)) ns;rw [cmpV];simp only [Val.kind,Val.int,Val.text,Val.items,Val.names,orI_zero,h,cmpI_zero.2 rfl,cmpB_zero.2 rfl];simp [orI]
theorem cmpsV_refl:∀ xs doc ns,cmpsV xs doc xs ns ns=0
 | [],_,_=>by rw [cmpsV];rfl
 | x :: xs,doc,ns=>by
  have h1:=cmpV_refl x;have h2:=cmpsV_refl xs doc ns.tail;rw [cmpsV];simp only [orI_zero,h1,h2,cmpB_zero.2 rfl];simp [orI]
end
mutual
theorem cmpV_eq:∀ (v w:Val),mayV v=true→mayV w=true→cmpV v w=0→v=w
 | .mk k i t xs ns,.mk k' i' t' ys ms,hv,hw,h=>by
  rw [cmpV] at h;simp only [Val.kind,Val.int,Val.text,Val.items,Val.names,orI_zero,cmpI_zero,cmpB_zero] at h;obtain ⟨rfl,rfl,rfl,h4,_⟩:=h;have hm1:maysV xs=true:=by rw [mayV] at hv;simp at hv;exact hv.1.1
  have hm2:maysV ys=true:=by rw [mayV] at hw;simp at hw;exact hw.1.1
  obtain ⟨rfl,h6⟩:=cmpsV_eq xs ys hm1 hm2 _ _ _ h4;have hn:ns=ms:=by
   by_cases hk:k=7
   ·subst hk;exact h6 (by simp) (may7 hv) (may7 hw)
   ·rw [mayV] at hv hw;simp only [Bool.and_eq_true,kindOk] at hv hw;have h1:=hv.2;have h2:=hw.2;have:ns.length=0∧ms.length=0:=by
     constructor
     ·grind
     ·grind
    rw [List.eq_nil_of_length_eq_zero this.1,List.eq_nil_of_length_eq_zero this.2]
  rw [hn]
theorem cmpsV_eq:∀ (xs ys:List Val),maysV xs=true→maysV ys=true→∀ (doc:Bool) (ns ms:List Str),cmpsV xs doc ys ns ms=0→xs=ys∧(doc=true→ns.length=xs.length→ms.length=ys.length→ns=ms)
 | [],ys,_,_,doc,ns,ms,h=>by
  rw [cmpsV,cmpI_zero] at h;have:ys=[]:=List.eq_nil_of_length_eq_zero (by omega);subst this;exact ⟨rfl,fun _ h1 h2=>by rw [List.eq_nil_of_length_eq_zero h1,List.eq_nil_of_length_eq_zero h2]⟩
 | x :: xs,[],_,_,doc,ns,ms,h=>by rw [cmpsV] at h;cases h
 | x :: xs,y :: ys,hx,hy,doc,ns,ms,h=>by
  rw [cmpsV] at h;simp only [orI_zero] at h;obtain ⟨h1,h2,h3,_⟩:=h;simp only [maysV,Bool.and_eq_true] at hx hy;have e1:=cmpV_eq x y hx.1 hy.1 h2;obtain ⟨e2,e3⟩:=cmpsV_eq xs ys hx.2 hy.2 doc ns.tail ms.tail h3;refine ⟨by rw [e1,e2],fun hd l1 l2=>?_⟩;rw [if_pos hd,cmpB_zero] at h1;cases ns with
  | nil=>simp at l1
  | cons n ns=>
   cases ms with
   | nil=>simp at l2
   | cons m ms=>
    simp only [List.headD_cons] at h1;have e4:ns=ms:=e3 hd (by simpa using l1) (by simpa using l2);rw [h1,e4]
end
theorem encVs_snoc {xs:List Val} {i:Nat} (h:i < xs.length):encVs (xs.take (i+1))=encVs (xs.take i)++[encV (xs[i]'h)]:=by
 rw [List.take_succ_eq_append_getElem h,encVs_map,encVs_map,List.map_append];rfl
theorem fn127:FnOk Tryz.prog 127 8 [2] (bodyOf Tryz.f127):=⟨Tryz.f127,Tryz.func127,by kernel_rfl,by decide,by kernel_rfl,by kernel_rfl⟩
theorem s127 (ns:List Str) (hsz:ns.length≤1099511627776):DSpec Tryz.prog 127 [.d (.sl 1 (ns.map .str))] 9 1 (ns.map .str):=by
 refine DSpec.of fn127 (by simp) fun o nk=>?_;refine wr ?_;refine ua ?_;refine u_nil ?_;refine WP.seq fun K2 hK2=>?_;refine wr ?_;refine um ?_;refine u_step (o_eqnil rfl rfl th22 rfl fun nb4 hnb4=>?_);refine u_nil ?_;refine wc (fun hc5=>?_) (fun hc5=>?_) <;> try simp only [Q0,Q1,Q2,Q3,Q4,Q5,Q6,Q7,Q8,ge_iff_le,gt_iff_lt] at hc5
 ·
  refine wr (ua (u_nil (WP.ret ?_)));refine dnil_ok rfl ?_ (by omega) (fun _ _=>rfl);exact hnb4 hc5
 ·
  refine WP.skip (hK2 _ (wr ?_));refine u_step (g_bs0 th22 rfl th9 rfl rfl (by decide) fun o8 hb8 hk8=>?_);refine um ?_;refine u_step (g_ap rfl rfl th22 rfl th9 rfl rfl (by decide) rfl hb8 (by simp only [List.length_nil,List.length_map];omega) (by simp only [List.length_nil,List.length_map];omega) fun o9 hb9 hk9=>?_);refine uS (u_nil (WP.ret ?_));refine drow_ok rfl (by omega) (by omega) ?_ (fun t ht=>(hk9 t (by omega) (by omega)).trans ((hk8 t (by omega))));simpa using hb9
theorem fn77:FnOkC Tryz.prog 77 28 [.cell 2 27] (bodyOf Tryz.f77):=⟨Tryz.f77,Tryz.func77,by kernel_rfl,by decide,by kernel_rfl,by kernel_rfl⟩
theorem s77A (m:Nat):∀ v:Val,SizeOf.sizeOf v < m→szV v≤1099511627776→PSpec Tryz.prog 77 [.d (encV v)] (.d (encV v)):=by
 induction m with
 | zero=>intros;omega
 | succ m ih=>
  rintro ⟨kd,it,tx,xs,ns⟩ hv hsz;have hsz2:1+tx.length+szVs xs+szN ns≤1099511627776:=hsz;have hxl:=szVs_len xs;have hnl:=szN_len ns;have hln:=encVs_length xs;refine PSpec.ofC1 tabOk fn77 (by simp) fun o nk=>?_;refine wr ?_;refine u_step (g_box rfl fun o2 hb2 hk2=>?_);refine u_step (g_alloc th27 rfl fun o3 hb3 hk3=>?_);have hb2_3:=(hk3 _ (by omega)).trans hb2;refine u_nil (wr (uf th27 th22 hb2_3 ?_));refine ul th22 hb2_3 ?_;refine u_step (o_pcall ((s127 ns (by omega)).frz) rfl ?_);refine uf th27 th22 hb2_3 ?_;refine u_step0 (g_st rfl rfl rfl th22 rfl hb2_3 (by simp) fun o5 hb5 hk5=>?_);have hb3_5:=(hk5 _ (by omega)).trans hb3;refine u_nil (wr (uf th27 th25 hb5 ?_));refine ul th25 hb5 ?_;refine ua (u_nil (wr (uf th27 th25 hb5 ?_)));refine u_step0 (g_st rfl rfl rfl th25 rfl hb5 (by simp) fun o8 hb8 hk8=>?_);have hb3_8:=(hk8 _ (by omega)).trans hb3_5;refine u_nil (WP.seq fun K9 hK9=>?_);refine wr (um (un th25 ?_));refine um (u_nil (WP.block ?_));refine WP.loopL (ι:=Nat×SV×Option Nat×(Nat→Option AO)×Nat) (fun ⟨i,c,q,o2,nk2⟩=>⟨al [(1,.loc nk 0),(2,.loc (nk+1) 0),(13,.d (.sl 5 (encVs xs))),(14,.d (.int .i64 (encVs xs).length)),(15,.d (.int .i64 i))],o2,nk2⟩) (fun ⟨i,c,q,o2,nk2⟩=>i≤xs.length∧nk+2≤nk2∧o2 nk=some (.box [.d (.int .i64 kd),.d (.int .i64 it),.d (.str tx),c,.d (.sl 1 (ns.map .str))])∧o2 (nk+1)=some (.box [.d (.int .i64 0),.d (.int .i64 0),.d (.str []),.d .nil,.d .nil])∧dstOf o2 27 5 c=some (q,encVs (xs.take i))∧(∀ t,q=some t→nk+2≤t∧t < nk2)∧∀ t,t < nk→o2 t=o t) (fun ⟨i,c,q,o2,nk2⟩=>xs.length - i) (fun ⟨i,c,q,o2,nk2⟩ hA=>?_) ⟨0,.d .nil,none,o8,((nk+1)+1)⟩ ?_ ?_
  ·
   obtain ⟨hle,hnk,hob,hzb,hd,hq,hfr⟩:=hA;refine wr ?_;refine ub ?_;refine u_nil ?_;refine WP.seq fun K12 hK12=>?_;refine wc (fun hc13=>?_) (fun hc13=>?_) <;> try simp only [Q0,Q1,Q2,Q3,Q4,Q5,Q6,Q7,Q8,ge_iff_le,gt_iff_lt] at hc13
   ·
    refine WP.skip (hK12 _ (WP.seq fun K14 hK14=>?_));refine WP.block (wr ?_)
    first | refine u_step (o_ia_map rfl rfl th25 rfl th27 rfl (by omega) ?_) | refine u_step (o_ia_vs rfl rfl th25 rfl th27 rfl (by omega) ?_)
    refine uL th27 ?_;refine u_step (g_alloc th27 rfl fun o16 hb16 hk16=>?_);have hob_16:=(hk16 _ (by omega)).trans hob;have hzb_16:=(hk16 _ (by omega)).trans hzb;have hd_16:=dst_keep hd fun t e=>hk16 t (by have:=hq t e;omega);refine u_step0 (g_sta rfl (congrArg SV.d (encV_eq _)) th27 rfl hb16 (by simp [valCells]) fun o17 hb17 hk17=>?_);have hob_17:=(hk17 _ (by omega)).trans hob_16;have hzb_17:=(hk17 _ (by omega)).trans hzb_16;have hd_17:=dst_keep hd_16 fun t e=>hk17 t (by have:=hq t e;omega);refine u_nil ?_;refine WP.dr2 [.q 0 0,.q 0 0,.q 0 0,.q 0 0,.q 0 0,.w 0,.q 1 1,.w 1] [5,7] ((nk2+1)+1) ((nk2+1)+1) tabOk (by kernel_rfl) rfl (by kernel_rfl) (by kernel_rfl) ?_;apply Exists.intro;apply Exists.intro;refine e_step rfl (o_fa_loc rfl th27 rfl rfl th25 (by decide) hob_17 ⟨rfl,rfl,rfl⟩) ?_;refine e_step rfl (o_ld_locV rfl th25 rfl hob_17 rfl ⟨rfl,rfl,rfl⟩) ?_;refine e_step rfl (o_ld_agg rfl th27 rfl hb17 rfl rfl rfl ⟨rfl,rfl,rfl⟩) ?_;refine e_step rfl (o_pcall (pv (v:=xs[i]) (ih _ (by exact items_lt' (by omega) hv) (by have:=szVs_get (xs:=xs) (j:=i) (by omega);omega))) rfl ⟨rfl,rfl,rfl⟩) ?_
    first | refine e_step rfl (o_bs rfl th25 rfl th27 rfl rfl (by decide) rfl (by decide) (by decide) ⟨rfl,rfl,rfl⟩) ?_ | refine e_step rfl (o_bs1 rfl (by simp only [encV_width]) th25 rfl th27 rfl rfl (by decide) (by decide) ⟨rfl,rfl,rfl⟩) ?_
    refine e_w rfl rfl (w_apD rfl th25 rfl th27 rfl rfl (by decide) rfl hd_17 (by simp only [encVs_length,List.length_take,List.length_cons,List.length_nil];omega) (by simp only [encVs_length,List.length_take,List.length_cons,List.length_nil];omega) ⟨rfl,rfl,rfl⟩) ?_;refine e_step rfl (o_fa_loc rfl th27 rfl rfl th25 (by decide) (((upd_ne _ _ (by omega)).trans (killo_ne (fun e=>by have:=hq _ e;omega))).trans hob_17) ⟨rfl,rfl,rfl⟩) ?_;refine e_w0 rfl rfl (w_stV rfl rfl (upd_same _ _ _) th25 rfl (((upd_ne _ _ (by omega)).trans (killo_ne (fun e=>by have:=hq _ e;omega))).trans hob_17) (by simp) ⟨rfl,rfl,rfl⟩) ?_;refine e_nil rfl fun o20 ho20=>?_;have hbZ_20:=(ho20 _).trans ((upd_ne _ _ (by omega)).trans (((upd_ne _ _ (by omega)).trans (killo_ne (fun e=>by have:=hq _ e;omega))).trans hzb_17));have hbb16_20:=(ho20 _).trans ((upd_ne _ _ (by omega)).trans (((upd_ne _ _ (by omega)).trans (killo_ne (fun e=>by have:=hq _ e;omega))).trans hb17));have hbr18_20:=(ho20 _).trans ((upd_ne _ _ (by omega)).trans (upd_same _ _ _));have hbB_20:=(ho20 _).trans (upd_same _ _ _);have hk20:∀ t,t < nk→o20 t=o17 t:=fun t ht=>(ho20 t).trans ((upd_ne _ _ (by omega)).trans ((upd_ne _ _ (by omega)).trans (killo_ne (fun e=>by have:=hq _ e;omega))));refine hK14 _ (WP.reg tabOk rfl ?_);refine ub (um (u_nil ?_));refine ⟨⟨i+1,.row _,some _,o20,((nk2+1)+1)⟩,⟨by omega,by omega,hbB_20,hbZ_20,(encVs_snoc (xs:=xs) (i:=i) (by omega)) ▸ dst_row hbr18_20,fun t e=>by injection e with e;omega,(fun t ht=>(hk20 t (by omega)).trans ((hk17 t (by omega)).trans ((hk16 t (by omega)).trans ((hfr t (by omega))))))⟩,by simp only;omega,?_⟩;refine Le.al ?_;simp only [List.forall_mem_cons];exact ⟨rfl,rfl,rfl,rfl,cnt (by omega),by simp⟩
   ·
    refine WP.exit ?_;refine hK9 _ ?_;refine WP.frzC (pre:=[.d (.int .i64 kd),.d (.int .i64 it),.d (.str tx)]) (post:=[.d (.sl 1 (ns.map .str))]) [(1,.loc nk 0),(2,.loc (nk+1) 0)] nk hob hd (Nat.le_refl _) (fun t e=>⟨rfl,rfl⟩) (fun t e=>by simp only [List.forall_mem_cons];exact ⟨rfl,rfl,by simp⟩) (fun e=>by simp only [List.forall_mem_cons];exact ⟨rfl,rfl,by simp⟩) fun o9 hB9 hk9 hm9=>?_;have hZ9:=hm9 _ _ (by omega) hzb fun t e=>rfl;have hF9:∀ t,t < nk→o9 t=o t:=fun t ht=>(hk9 t ht (fun e=>by have:=hq _ e;omega)).trans (hfr t ht);refine wr (ug th27 hB9 ?_);refine u_step0 (g_sta rfl rfl th27 rfl hZ9 (by first | (simp;done) | (simp [D.leaves,D.width,valCells];done) | decide) fun o22 hb22 hk22=>?_);have hB9_22:=(hk22 _ (by omega)).trans hB9;refine u_nil (WP.ret ?_);refine retC1_ok (resis_agg rfl th27 rfl hb22 rfl rfl rfl) ?_ (by omega) (fun t ht=>(hk22 t (by omega)).trans ((hF9 t (by omega))));rw [List.take_of_length_le (by omega)];rfl
  ·
   refine ⟨by omega,by omega,hb8,hb3_8,rfl,by simp,(fun t ht=>(hk8 t (by omega)).trans ((hk5 t (by omega)).trans ((hk3 t (by omega)).trans ((hk2 t (by omega))))))⟩
  ·
   refine Le.al ?_;simp only [List.forall_mem_cons];exact ⟨rfl,rfl,rfl,rfl,rfl,by simp⟩
theorem s77 (v:Val) (hsz:szV v≤1099511627776):PSpec Tryz.prog 77 [.d (encV v)] (.d (encV v)):=s77A _ v (Nat.lt_succ_self _) hsz
def placeV (v:Val) (s:Str):Int:=
 if v.kind=7 then idxS v.names s else if v.kind=6 then (if stepI s < v.items.length then stepI s else -1) else -1
def getV:Val→List Str→Option Val
 | v,[]=>some v
 | v,s :: p=>if 0≤placeV v s then (match v.items[(placeV v s).toNat]? with
  | some x=>getV x p
  | none=>none) else none
theorem place7 {k i:Int} {t:Str} {xs:List Val} {ns:List Str} {s:Str} (h:k=7):placeV (.mk k i t xs ns) s=idxS ns s:=by
 show (if k=7 then _ else _)=_;rw [if_pos h];rfl
def zeroV:Val:=.mk 0 0 [] [] []
def optL (o:Option Val):List D:=[encV (o.getD zeroV),.bool o.isSome]
def optL0 (o:Option Val):List D:=[match o with
 | some v=>encV v
 | none=>.agg [.int .i64 0,.int .i64 0,.str [],.nil,.nil],.bool o.isSome]
theorem opt_le (o:Option Val):D.les (optL0 o) (optL o):=by
 cases o with
 | none=>simp [optL0,optL,D.les,D.le,zeroV,encV,encVs]
 | some v=>exact D.les_refl _
theorem item_ex {xs:List Val} {j:Nat} (h:j < xs.length):∃ x,xs[j]?=some x:=⟨_,List.getElem?_eq_getElem h⟩
theorem pv2 {P:Program} {f:FuncId} {v:Val} {c:SV} {r:SV} (h:PSpec P f [.d (encV v),c] r):PSpec P f [.d (.agg (valCells v)),c] r:=encV_eq v ▸ h
theorem get_step {v:Val} {s:Str} {p:List Str} {x:Val} (h:0≤placeV v s) (hx:v.items[(placeV v s).toNat]?=some x):getV v (s :: p)=getV x p:=by
 rw [getV,if_pos h,hx]
theorem get_no {v:Val} {s:Str} {p:List Str} (h:placeV v s < 0):getV v (s :: p)=none:=by
 rw [getV,if_neg (by omega)]
theorem items_at {v:Val} {j:Nat} {x:Val} (h:v.items[j]?=some x):(encVs v.items)[j]?=some (encV x):=by
 rw [encVs_map,List.getElem?_map,h];rfl
theorem s184b (s:Str):PSpec Tryz.prog 184 [.d (.str s)] (.tup [.d (.int .i64 (if 0≤stepI s then stepI s else 0)),.d (.bool (decide (0≤stepI s)))]):=by
 have h:=s184 s;have e:(idxL s).map SV.d=[.d (.int .i64 (if 0≤stepI s then stepI s else 0)),.d (.bool (decide (0≤stepI s)))]:=by
  unfold idxL;split <;> simp_all
 rwa [e] at h
theorem idx_lt (ns:List Str) (s:Str):idxS ns s < ns.length:=by
 unfold idxS firstI;split
 ·rename_i h;have:=List.findIdx_lt_length_of_exists (xs:=ns) (p:=fun x=>decide (s=x)) (by simpa using h);omega
 ·omega
theorem stepI_ge (s:Str):-1≤stepI s:=by unfold stepI;split <;> (try split) <;> omega
theorem may_item {v:Val} (h:mayV v=true) {x:Val} (hx:x∈v.items):mayV x=true:=by
 obtain ⟨k,i,t,xs,ns⟩:=v;obtain ⟨j,hj,rfl⟩:=List.mem_iff_getElem.1 hx;exact may_items h hj
theorem place_lt {v:Val} (h:mayV v=true) (s:Str):placeV v s < v.items.length:=by
 unfold placeV;split
 ·rename_i hk;obtain ⟨k,i,t,xs,ns⟩:=v;simp only [Val.kind] at hk;subst hk;have:=idx_lt ns s;have:=may7 h;simp only [Val.names,Val.items];omega
 ·split
  ·split <;> omega
  ·omega
theorem sz_item {v:Val} {j:Nat} {x:Val} (h:v.items[j]?=some x):szV x≤szV v:=by
 obtain ⟨k,i,t,xs,ns⟩:=v;simp only [Val.items] at h;obtain ⟨hj,rfl⟩:=List.getElem?_eq_some_iff.1 h;have:=szVs_get hj;simp only [szV];omega
structure Etr where
 term:Int
 kind:Int
 coll:Str
 to:Str
 id:Val
 doc:Val
 deltas:List Dlt
 session:Int
 number:Int
structure Flt where
 coll:Str
 path:List Str
 kinds:Int
theorem fn156:FnOk Tryz.prog 156 31 [4] (bodyOf Tryz.f156):=⟨Tryz.f156,Tryz.func156,by kernel_rfl,by decide,by kernel_rfl,by kernel_rfl⟩
theorem s156 (v:Val) (s:Str):PSpec Tryz.prog 156 [.d (encV v),.d (.str s)] (.d (.int .i64 (placeV v s))):=by
 obtain ⟨kd,it,tx,xs,ns⟩:=v;refine PSpec.of fn156 (by simp) fun o nk=>?_;refine wr ?_;refine u_step (g_box rfl fun o2 hb2 hk2=>?_);refine ua ?_;refine u_nil ?_;refine WP.seq fun K3 hK3=>?_;refine wr ?_;refine uf th27 th3 hb2 ?_;refine ul th3 hb2 ?_;refine u_nil ?_;refine WP.block ?_;refine wr ?_;refine ub ?_;refine ua ?_;refine u_nil ?_;refine wc (fun hc6=>?_) (fun hc6=>?_) <;> try simp only [Q0,Q1,Q2,Q3,Q4,Q5,Q6,Q7,Q8,ge_iff_le,gt_iff_lt] at hc6
 ·
  refine wr (uf th27 th22 hb2 ?_);refine ul th22 hb2 ?_;refine um ?_;refine u_step (o_pcall (s183 ns s) rfl ?_);refine ua (u_nil (WP.ret ?_));refine ret_ok rfl ?_ (by omega) (fun t ht=>(hk2 t (by omega)));clear hK3;refine congrArg (D.int .i64) ?_;have e1:=encVs_length xs;have e2:=stepI_ge s;simp only [beq_iff_eq,beq_eq_false_iff_ne,ne_eq,Bool.and_eq_true,Bool.and_eq_false_iff,decide_eq_true_eq,decide_eq_false_iff_not] at hc6;simp only [placeV,Val.kind,Val.items,Val.names]
  grind
 ·
  refine wr ?_;refine ub ?_;refine ua ?_;refine u_nil ?_;refine wc (fun hc9=>?_) (fun hc9=>?_) <;> try simp only [Q0,Q1,Q2,Q3,Q4,Q5,Q6,Q7,Q8,ge_iff_le,gt_iff_lt] at hc9
  ·
   refine wr (um ?_);refine u_step (o_pcall (s184b s) rfl ?_);refine u_step (o_moveV (v:=.tup _) rfl ?_);refine ue (ue (ua (ua (u_nil (wr (um (um ?_)))))));apply gT
   ·rfl
   ·intro hg;exact pm
   apply gT
   ·rfl
   ·intro hg;exact pf th27 th25 hb2
   apply gT
   ·rfl
   ·intro hg;try simp only [hg,ct,Bt]
    exact pl th25 hb2
   apply gT
   ·rfl
   ·intro hg;try simp only [hg,ct,Bt]
    exact pn th25
   apply gT
   ·rfl
   ·intro hg;try simp only [hg,ct,Bt]
    exact pb
   refine uA ?_;refine u_nil ?_;refine wc (fun hc12=>?_) (fun hc12=>?_) <;> try simp only [Q0,Q1,Q2,Q3,Q4,Q5,Q6,Q7,Q8,ge_iff_le,gt_iff_lt] at hc12
   ·
    refine wr (um (ua (u_nil (WP.ret ?_))));refine ret_ok rfl ?_ (by omega) (fun t ht=>(hk2 t (by omega)));clear hK3;refine congrArg (D.int .i64) ?_;have e1:=encVs_length xs;have e2:=stepI_ge s;simp only [beq_iff_eq,beq_eq_false_iff_ne,ne_eq,Bool.and_eq_true,Bool.and_eq_false_iff,decide_eq_true_eq,decide_eq_false_iff_not] at hc6 hc9 hc12;simp only [placeV,Val.kind,Val.items,Val.names]
    grind
   ·
    refine WP.skip (hK3 _ (wr (ua (u_nil (WP.ret ?_)))));refine ret_ok rfl ?_ (by omega) (fun t ht=>(hk2 t (by omega)));clear hK3;refine congrArg (D.int .i64) ?_;have e1:=encVs_length xs;have e2:=stepI_ge s;simp only [beq_iff_eq,beq_eq_false_iff_ne,ne_eq,Bool.and_eq_true,Bool.and_eq_false_iff,decide_eq_true_eq,decide_eq_false_iff_not] at hc6 hc9 hc12;simp only [placeV,Val.kind,Val.items,Val.names]
    grind
  ·
   refine WP.skip (hK3 _ (wr (ua (u_nil (WP.ret ?_)))));refine ret_ok rfl ?_ (by omega) (fun t ht=>(hk2 t (by omega)));clear hK3;refine congrArg (D.int .i64) ?_;have e1:=encVs_length xs;have e2:=stepI_ge s;simp only [beq_iff_eq,beq_eq_false_iff_ne,ne_eq,Bool.and_eq_true,Bool.and_eq_false_iff,decide_eq_true_eq,decide_eq_false_iff_not] at hc6 hc9;simp only [placeV,Val.kind,Val.items,Val.names]
   grind
theorem fn115:FnOk Tryz.prog 115 36 [4] (bodyOf Tryz.f115):=⟨Tryz.f115,Tryz.func115,by kernel_rfl,by decide,by kernel_rfl,by kernel_rfl⟩
theorem s115 (v:Val) (s:Str):PSpec Tryz.prog 115 [.d (encV v),.d (.str s)] (.d (.int .i64 (placeV v s))):=by
 refine PSpec.bd fun hbd=>?_;obtain ⟨kd,it,tx,xs,ns⟩:=v;have hx:ns.length≤9223372036854775807:=by simpa using hbd.1.2.2.2.2.1.1
 refine PSpec.of fn115 (by simp) fun o nk=>?_;refine wr ?_;refine u_step (g_box rfl fun o2 hb2 hk2=>?_);refine ua ?_;refine u_nil ?_;refine WP.seq fun K3 hK3=>?_;refine wr ?_;refine uf th27 th3 hb2 ?_;refine ul th3 hb2 ?_;refine ub ?_;refine u_nil ?_;refine wc (fun hc5=>?_) (fun hc5=>?_) <;> try simp only [Q0,Q1,Q2,Q3,Q4,Q5,Q6,Q7,Q8,ge_iff_le,gt_iff_lt] at hc5
 ·
  refine WP.seq fun K6 hK6=>?_;refine wr ?_;refine um ?_;refine u_step (o_pcall (s136 s) rfl ?_);refine ua ?_;refine u_nil ?_;refine wr ?_;refine um ?_;refine uf th27 th25 hb2 ?_;refine ul th25 hb2 ?_;refine un th25 ?_;refine ub ?_;refine u_nil ?_;refine wc (fun hc9=>?_) (fun hc9=>?_) <;> try simp only [Q0,Q1,Q2,Q3,Q4,Q5,Q6,Q7,Q8,ge_iff_le,gt_iff_lt] at hc9
  ·
   refine wr (um (ua (u_nil (WP.ret ?_))));refine ret_ok rfl ?_ (by omega) (fun t ht=>(hk2 t (by omega)));clear hK3 hK6;refine congrArg (D.int .i64) ?_;have e1:=encVs_length xs;have e2:=stepI_ge s;simp only [beq_iff_eq,beq_eq_false_iff_ne,ne_eq,decide_eq_true_eq,decide_eq_false_iff_not] at hc5 hc9;simp only [placeV,Val.kind,Val.items,Val.names]
   grind
  ·
   refine WP.skip (hK6 _ (wr (ua (u_nil (WP.ret ?_)))));refine ret_ok rfl ?_ (by omega) (fun t ht=>(hk2 t (by omega)));clear hK3 hK6;refine congrArg (D.int .i64) ?_;have e1:=encVs_length xs;have e2:=stepI_ge s;simp only [beq_iff_eq,beq_eq_false_iff_ne,ne_eq,decide_eq_true_eq,decide_eq_false_iff_not] at hc5 hc9;simp only [placeV,Val.kind,Val.items,Val.names]
   grind
 ·
  refine WP.skip ?_;refine hK3 _ ?_;refine WP.seq fun K12 hK12=>?_;refine wr ?_;refine uf th27 th3 hb2 ?_;refine ul th3 hb2 ?_;refine ub ?_;refine u_nil ?_;refine wc (fun hc14=>?_) (fun hc14=>?_) <;> try simp only [Q0,Q1,Q2,Q3,Q4,Q5,Q6,Q7,Q8,ge_iff_le,gt_iff_lt] at hc14
  ·
   have hk:kd=7:=by simpa using hc14
   refine wr (ua (u_nil (WP.block ?_)));refine WP.loopL (ι:=Nat) (fun i=>⟨al [(1,.d (.str s)),(2,.loc nk 0),(6,.d (.int .i64 i))],o2,(nk+1)⟩) (fun i=>i≤ns.length∧∀ (j:Nat) (hj:j < ns.length),j < i→decide (s=ns[j])=false) (fun i=>ns.length - i) (fun i hA=>?_) 0 ?_ ?_
   ·
    obtain ⟨hle_i,hin_i⟩:=hA;refine WP.seq fun K16 hK16=>?_;refine wr ?_;refine um ?_;refine uf th27 th22 hb2 ?_;refine ul th22 hb2 ?_;refine un th22 ?_;refine ub ?_;refine u_nil ?_;refine wc (fun hc18=>?_) (fun hc18=>?_) <;> try simp only [Q0,Q1,Q2,Q3,Q4,Q5,Q6,Q7,Q8,ge_iff_le,gt_iff_lt] at hc18
    ·
     refine WP.skip (hK16 _ (WP.seq fun K19 hK19=>?_));refine WP.block (wr (uf th27 th22 hb2 ?_));refine ul th22 hb2 ?_;refine um ?_
     refine u_step (o_ia_map rfl rfl th22 rfl th9 rfl (by omega) ?_)
     refine uL th9 ?_;refine um ?_;refine us ?_;refine u_nil ?_;refine wc (fun hc21=>?_) (fun hc21=>?_) <;> try simp only [Q0,Q1,Q2,Q3,Q4,Q5,Q6,Q7,Q8,ge_iff_le,gt_iff_lt] at hc21
     ·
      refine wr (um (ua (u_nil (WP.ret ?_))));refine ret_ok rfl ?_ (by omega) (fun t ht=>(hk2 t (by omega)));clear hK3 hK12 hK16 hK19;have hl:ns[i]=s:=by simpa using hc21
      refine congrArg (D.int .i64) ?_;rw [place7 hk,idxS,firstI_at (p:=fun x=>decide (s=x)) (xs:=ns) (i:=i) (by omega) (decide_eq_true hl.symm) hin_i]
     ·
      refine WP.skip (hK19 _ (WP.reg tabOk rfl ?_));refine um (ub (ua (u_nil ?_)));refine ⟨i+1,⟨by omega,?_⟩,by omega,?_⟩
      ·intro j hj h1;by_cases h2:j=i
       ·subst h2;have hl:=hc21;simp only [decide_eq_false_iff_not] at hl ⊢;exact fun e=>hl e.symm
       ·exact hin_i j hj (by omega)
      ·refine Le.al ?_;simp only [List.forall_mem_cons];exact ⟨rfl,rfl,cnt (by omega),by simp⟩
    ·
     refine WP.exit ?_;refine hK12 _ (wr (ua (u_nil (WP.ret ?_))));refine ret_ok rfl ?_ (by omega) (fun t ht=>(hk2 t (by omega)));clear hK3 hK12 hK16;refine congrArg (D.int .i64) ?_;rw [place7 hk,idxS,firstI_none (p:=fun x=>decide (s=x)) (xs:=ns) fun j hj=>hin_i j hj (by omega)]
   ·
    simp
   ·
    refine Le.al ?_;simp only [List.forall_mem_cons];exact ⟨rfl,rfl,rfl,by simp⟩
  ·
   refine WP.skip (hK12 _ (wr (ua (u_nil (WP.ret ?_)))));refine ret_ok rfl ?_ (by omega) (fun t ht=>(hk2 t (by omega)));clear hK3 hK12;refine congrArg (D.int .i64) ?_;have e1:=encVs_length xs;have e2:=stepI_ge s;simp only [beq_iff_eq,beq_eq_false_iff_ne,ne_eq,decide_eq_true_eq,decide_eq_false_iff_not] at hc5 hc14;simp only [placeV,Val.kind,Val.items,Val.names]
   grind
theorem fn62:FnOkC Tryz.prog 62 29 [.cell 4 27,.tmp 5] (bodyOf Tryz.f62):=⟨Tryz.f62,Tryz.func62,by kernel_rfl,by decide,by kernel_rfl,by kernel_rfl⟩
theorem s62a (v:Val) (p:List Str) (hm:mayV v=true):PSpec Tryz.prog 62 [.d (encV v),.d (.sl 1 (p.map .str))] (.tup ((optL0 (getV v p)).map .d)):=by
 refine PSpec.bd fun hbd=>?_;obtain ⟨kd,it,tx,xs,ns⟩:=v;have hx:p.length≤9223372036854775807:=by simpa using hbd.2.1.1
 refine PSpec.of2C tabOk fn62 (by simp) fun o nk=>?_;refine wr ?_;refine u_step (g_box rfl fun o2 hb2 hk2=>?_);refine u_step (g_alloc th27 rfl fun o3 hb3 hk3=>?_);have hb2_3:=(hk3 _ (by omega)).trans hb2;refine ua (u_nil (WP.seq fun K4 hK4=>?_));refine wr (ua (u_nil (WP.block ?_)));refine WP.loopL (ι:=Nat×Val×(Nat→Option AO)) (fun ⟨i,u,o2⟩=>⟨al [(1,.d (.sl 1 (p.map .str))),(2,.loc nk 0),(4,.loc (nk+1) 0),(6,.d (.int .i64 i))],o2,((nk+1)+1)⟩) (fun ⟨i,u,o2⟩=>i≤p.length∧o2 nk=some (.box ((valCells u).map .d))∧o2 (nk+1)=some (.box [.d (.int .i64 0),.d (.int .i64 0),.d (.str []),.d .nil,.d .nil])∧(∀ t,t < nk→o2 t=o t)∧mayV u=true∧getV (.mk kd it tx xs ns) p=getV u (p.drop i)) (fun ⟨i,u,o2⟩=>p.length - i) (fun ⟨i,u,o2⟩ hA=>?_) ⟨0,(.mk kd it tx xs ns),o3⟩ ?_ ?_
 ·
  obtain ⟨hle,hob,hzb,hfr,hmu,hgt⟩:=hA;refine WP.seq fun K6 hK6=>?_;refine wr ?_;refine um ?_;refine um ?_;refine un th22 ?_;refine ub ?_;refine u_nil ?_;refine wc (fun hc8=>?_) (fun hc8=>?_) <;> try simp only [Q0,Q1,Q2,Q3,Q4,Q5,Q6,Q7,Q8,ge_iff_le,gt_iff_lt] at hc8
  ·
   refine WP.skip (hK6 _ (WP.seq fun K9 hK9=>?_));refine WP.block (wd ?_);refine dg th27 hob ?_;refine dm ?_;refine dm ?_
   refine d_step (o_ia_map rfl rfl th22 rfl th9 rfl (by omega) ⟨rfl,rfl,rfl⟩) ?_
   refine dL th9 ?_;refine d_step (o_pcall (pv2 (v:=u) (s115 u p[i])) rfl ⟨rfl,rfl,rfl⟩) ?_;refine da ?_;refine d_nil ?_;refine WP.seq fun K11 hK11=>?_;refine wr ?_;refine um ?_;refine ub ?_;refine u_nil ?_;refine wc (fun hc13=>?_) (fun hc13=>?_) <;> try simp only [Q0,Q1,Q2,Q3,Q4,Q5,Q6,Q7,Q8,ge_iff_le,gt_iff_lt] at hc13
   ·
    refine wr ?_;refine u_step (o_bu rfl th27 rfl rfl ?_);refine u_step0 (g_sta rfl rfl th27 rfl hzb (by first | (simp;done) | (simp [D.leaves,D.width,valCells];done) | decide) fun o15 hb15 hk15=>?_);have hob_15:=(hk15 _ (by omega)).trans hob;refine ua (u_nil (WP.ret ?_));refine retC_ok (resis_agg rfl th27 rfl hb15 rfl rfl rfl) rfl ?_ ?_ (by omega) (fun t ht=>(hk15 t (by omega)).trans ((hfr t (by omega))))
    ·rw [hgt,List.drop_eq_getElem_cons (by omega),get_no (by omega)]
    ·rw [hgt,List.drop_eq_getElem_cons (by omega),get_no (by omega)];rfl
   ·
    have hp0:0≤placeV u p[i]:=by omega
    have hlt:=place_lt hmu p[i];obtain ⟨x,hx⟩:∃ x,u.items[(placeV u p[i]).toNat]?=some x:=item_ex (xs:=u.items) (j:=(placeV u p[i]).toNat) (by omega);refine WP.skip (hK11 _ (WP.reg tabOk rfl ?_));refine uf th27 th25 hob ?_;refine ul th25 hob ?_;refine um ?_;refine u_step (o_ia_sl (a:=encV x) rfl rfl th25 rfl th27 rfl (by omega) (items_at hx) ?_);refine u_step (o_ld_el rfl th27 (by simp only [encV_leaf,TK.agg,Bool.not_true]) (by simp only [encV_width]) ?_);refine u_step0 (g_sta rfl (congrArg SV.d (encV_eq x)) th27 rfl hob (by simp [valCells]) fun o16 hb16 hk16=>?_);have hzb_16:=(hk16 _ (by omega)).trans hzb;refine u_nil (hK9 _ (WP.reg tabOk rfl ?_));refine um (ub (ua (u_nil ?_)));refine ⟨⟨i+1,x,o16⟩,⟨by omega,hb16,hzb_16,(fun t ht=>(hk16 t (by omega)).trans ((hfr t (by omega)))),may_item hmu (List.mem_of_getElem? hx),?_⟩,by simp only;omega,?_⟩
    ·rw [hgt,List.drop_eq_getElem_cons (by omega),get_step hp0 hx]
    ·refine Le.al ?_;simp only [List.forall_mem_cons];exact ⟨rfl,rfl,rfl,cnt (by omega),by simp⟩
  ·
   refine WP.exit ?_;refine hK4 _ (wr (ug th27 hob ?_));refine u_step0 (g_sta rfl rfl th27 rfl hzb (by first | (simp;done) | (simp [D.leaves,D.width,valCells];done) | decide) fun o18 hb18 hk18=>?_);have hob_18:=(hk18 _ (by omega)).trans hob;refine ua (u_nil (WP.ret ?_));refine retC_ok (resis_agg rfl th27 rfl hb18 rfl rfl rfl) rfl ?_ ?_ (by omega) (fun t ht=>(hk18 t (by omega)).trans ((hfr t (by omega))))
   ·rw [hgt,List.drop_eq_nil_of_le (by omega),getV];exact (encV_eq u).symm
   ·rw [hgt,List.drop_eq_nil_of_le (by omega),getV];rfl
 ·
  exact ⟨by omega,hb2_3,hb3,(fun t ht=>(hk3 t (by omega)).trans ((hk2 t (by omega)))),hm,rfl⟩
 ·
  refine Le.al ?_;simp only [List.forall_mem_cons];exact ⟨rfl,rfl,rfl,rfl,by simp⟩
theorem s62 (v:Val) (p:List Str) (hm:mayV v=true):PSpec Tryz.prog 62 [.d (encV v),.d (.sl 1 (p.map .str))] (.tup ((optL (getV v p)).map .d)):=(s62a v p hm).leT (opt_le _)
theorem check_may {v:Val} (h:checkV v=0):mayV v=true:=by
 unfold checkV at h;split at h
 ·cases h
 ·rename_i hm;simpa using hm
theorem checkD_all {l:List Dlt} (h:checkD l=0):∀ d∈l,mayD d=true:=by
 unfold checkD at h;split at h
 ·cases h
 ·split at h
  ·rename_i h1;exact List.all_eq_true.1 h1
  ·cases h
theorem mayD_path {d:Dlt} (h:mayD d=true):0 < d.path.length:=by
 unfold mayD pathV at h;simp only [Bool.and_eq_true,decide_eq_true_eq] at h;omega
def s2:Str:=[36,0]
section
variable {P:Program} {Θ:Tab} {K:SV→(Nat→Option AO)→Nat→Prop} {sl:Nat→SV} {o:Nat→Option AO} {nk:Nat} {x y ix:Operand} {t e f:Nat}
end
section
variable {P:Program} {Θ:Tab} {ops:Array Oper} {K:St→Prop} {r:List Oper} {sl:Nat→SV} {d ty j lo m nk nk':Nat} {o o':Nat→Option AO} {op:Op} {pos:String} {af:Array Edge} {want c:Bool} {v:SV} {L:List Ob} {ks:List Kd}
theorem e_step3 {o2:Nat→Option AO} {nk2:Nat} (h0:L[lo]?=some (o,nk)) (h1:L[lo+1]?=some (o',nk')) (h9:L[lo+2]?=some (o2,nk2)) (h:vOp P Θ op ⟨sl,o,nk⟩ fun v' o'' nk''=>v'=v∧o''=o∧nk''=nk) (h2:vOp P Θ op ⟨sl,o',nk'⟩ fun v' o'' nk''=>v'=v∧o''=o'∧nk''=nk')
    (h3:vOp P Θ op ⟨sl,o2,nk2⟩ fun v' o'' nk''=>v'=v∧o''=o2∧nk''=nk2) (k:eOps P Θ ops K (pho L) m r ks (upd sl d v)) :
    eOps P Θ ops K (pho L) m ({ dst:=some d,op:=op,type:=ty,pos:=pos,after:=af,guard:=none } :: r) (.q lo (lo+2) :: ks) sl:=by
  refine ⟨v,?_,k⟩;show allP (lo+2 - lo) _ lo;rw [Nat.add_sub_cancel_left];simp only [allP,pho_at h0,pho_at h1,pho_at h9];exact ⟨h,h2,h3⟩
end
inductive TM (α:Type) where
 | e
 | n (v:Option α) (l r:TM α)
namespace TM
variable {α:Type}
def get:TM α→Nat→Option α
 | .e,_=>none
 | .n v _ _,0=>v
 | .n _ l r,k+1=>bif Nat.beq (k % 2) 0 then get l (k / 2) else get r (k / 2)
def seq {β:Type} (t:TM α) (k:TM α→β):β:=match t with
 | .e=>k .e
 | .n v l r=>k (.n v l r)
theorem seq_eq {β:Type} (t:TM α) (k:TM α→β):seq t k=k t:=by cases t <;> rfl
def put (v:Option α):Nat→TM α→Nat→TM α
 | 0,t,_=>t
 | _+1,.e,0=>.n v .e .e
 | _+1,.n _ l r,0=>.n v l r
 | d+1,.e,k+1=>bif Nat.beq (k % 2) 0 then seq (put v d .e (k / 2)) fun l=>.n none l .e else seq (put v d .e (k / 2)) fun r=>.n none .e r
 | d+1,.n u l r,k+1=>bif Nat.beq (k % 2) 0 then seq (put v d l (k / 2)) fun l=>.n u l r else seq (put v d r (k / 2)) fun r=>.n u l r
theorem beq_cond {a b:Nat} {β:Type} (x y:β):(bif Nat.beq a b then x else y)=if a=b then x else y:=by
 by_cases h:a=b
 ·subst h;simp
 ·have:Nat.beq a b=false:=by
   cases hb:Nat.beq a b with
   | false=>rfl
   | true=>exact absurd (Nat.eq_of_beq_eq_true hb) h
  rw [this,if_neg h];rfl
theorem get_put (v:Option α):∀ (d:Nat) (t:TM α) (k i:Nat),k < d→(put v d t k).get i=if i=k then v else t.get i
 | 0,_,_,_,h=>by omega
 | d+1,.e,0,i,_=>by
  cases i with
  | zero=>simp [put,get]
  | succ i=>simp only [put,get,beq_cond];simp
 | d+1,.n u l r,0,i,_=>by
  cases i with
  | zero=>simp [put,get]
  | succ i=>simp only [put,get,beq_cond];simp
 | d+1,.e,k+1,i,h=>by
  have ih:=get_put v d .e (k / 2);simp only [put,beq_cond,seq_eq];cases i with
  | zero=>split <;> simp [get]
  | succ i=>
   split
   ·simp only [get,beq_cond,ih _ (show k / 2 < d by omega)];split
    ·by_cases hc:i / 2=k / 2
     ·rw [if_pos hc,if_pos (by omega)]
     ·rw [if_neg hc,if_neg (by omega)]
    ·rw [if_neg (by omega)]
   ·simp only [get,beq_cond,ih _ (show k / 2 < d by omega)];split
    ·rw [if_neg (by omega)]
    ·by_cases hc:i / 2=k / 2
     ·rw [if_pos hc,if_pos (by omega)]
     ·rw [if_neg hc,if_neg (by omega)]
 | d+1,.n u l r,k+1,i,h=>by
  have ih1:=get_put v d l (k / 2);have ih2:=get_put v d r (k / 2);simp only [put,beq_cond,seq_eq];cases i with
  | zero=>split <;> simp [get]
  | succ i=>
   split
   ·simp only [get,beq_cond,ih1 _ (show k / 2 < d by omega)];split
    ·by_cases hc:i / 2=k / 2
     ·rw [if_pos hc,if_pos (by omega)]
     ·rw [if_neg hc,if_neg (by omega)]
    ·rw [if_neg (by omega)]
   ·simp only [get,beq_cond,ih2 _ (show k / 2 < d by omega)];split
    ·rw [if_neg (by omega)]
    ·by_cases hc:i / 2=k / 2
     ·rw [if_pos hc,if_pos (by omega)]
     ·rw [if_neg hc,if_neg (by omega)]
def set (t:TM α) (k:Nat) (v:Option α):TM α:=put v (k+1) t k
theorem get_set (t:TM α) (k:Nat) (v:Option α):(t.set k v).get=upd t.get k v:=by
 funext i;unfold set upd;exact get_put v _ t k i (by omega)
def mapT (f:α→α):TM α→TM α
 | .e=>.e
 | .n v l r=>seq (mapT f l) fun l=>seq (mapT f r) fun r=>match v with
  | none=>.n none l r
  | some x=>.n (some (f x)) l r
theorem get_mapT (f:α→α):∀ (t:TM α) (i:Nat),(mapT f t).get i=(t.get i).map f
 | .e,i=>rfl
 | .n v l r,i=>by
  have h1:=get_mapT f l;have h2:=get_mapT f r;simp only [mapT,seq_eq];cases v <;> cases i with
  | zero=>rfl
  | succ i=>simp only [get,beq_cond];split <;> simp [h1,h2]
def ofList (l:List α):TM α:=go l 0 .e
where go:List α→Nat→TM α→TM α
 | [],_,t=>t
 | x :: l,i,t=>go l (i+1) (t.set i (some x))
theorem ofList_go:∀ (l:List α) (k:Nat) (t:TM α) (i:Nat),(ofList.go l k t).get i=if k≤i∧i < k+l.length then l[i - k]? else t.get i
 | [],k,t,i=>by simp only [ofList.go,List.length_nil];rw [if_neg (by omega)]
 | x :: l,k,t,i=>by
  simp only [ofList.go,ofList_go l,get_set,upd,List.length_cons];by_cases h1:k+1≤i∧i < k+1+l.length
  ·rw [if_pos h1,if_pos (by omega),show i - k=(i - (k+1))+1 by omega,List.getElem?_cons_succ]
  ·rw [if_neg h1];by_cases h2:i=k
   ·subst h2;rw [if_pos rfl,if_pos (by omega)];simp
   ·rw [if_neg h2,if_neg (by omega)]
theorem get_ofList (l:List α) (i:Nat):(ofList l).get i=l[i]?:=by
 unfold ofList;rw [ofList_go];by_cases h:i < l.length
 ·rw [if_pos (by omega)];simp
 ·rw [if_neg (by omega),List.getElem?_eq_none (by omega)];rfl
end TM
structure XS where
 sl:TM SV
 o:TM AO
 nk:Nat
def XS.st (s:XS):St:=⟨fun u=>(s.sl.get u).getD .any,s.o.get,s.nk⟩
abbrev XR:=SV×TM AO×Nat
section
variable (Θ:Tab) (call:Nat→List SV→TM AO→Nat→Option XR)
def xbn (o:Nat→Option AO) (op:BinOp) (t:TypeId) (x y:SV):Option D:=
 match x,y with
 | .d (.int k a),.d (.int k' b)=>match op with
  | .shl=>shBin .shl k a b
  | .shr=>shBin .shr k a b
  | op=>if k=k' then intBin op k a b else none
 | .d (.str a),.d (.str b)=>strBin op a b
 | .d (.bool a),.d (.bool b)=>match Θ t with
  | some i=>match i.k with
   | .bool=>match op with
    | .eql=>some (.bool (a == b))
    | .neq=>some (.bool (!(a == b)))
    | _=>none
   | _=>none
  | none=>none
 | .d .nil,.d .nil=>match Θ t with
  | some i=>match i.k with
   | .slice _=>match op with
    | .eql=>some (.bool true)
    | .neq=>some (.bool false)
    | _=>none
   | _=>none
  | none=>none
 | .d (.sl _ (_ :: _)),.d .nil=>match Θ t with
  | some i=>match i.k with
   | .slice _=>match op with
    | .eql=>some (.bool false)
    | .neq=>some (.bool true)
    | _=>none
   | _=>none
  | none=>none
 | .d .nilp,.d .nilp=>match Θ t with
  | some i=>match i.k with
   | .ptr _=>match op with
    | .eql=>some (.bool true)
    | .neq=>some (.bool false)
    | _=>none
   | _=>none
  | none=>none
 | .loc q _,.d .nilp=>match Θ t with
  | some i=>match i.k with
   | .ptr _=>match o q with
    | some (.box _)=>match op with
     | .eql=>some (.bool false)
     | .neq=>some (.bool true)
     | _=>none
    | _=>none
   | _=>none
  | none=>none
 | _,_=>none
theorem xbn_ok {o:Nat→Option AO} {op:BinOp} {t:TypeId} {x y:SV} {r:D} (h:xbn Θ o op t x y=some r) {K:SV→Prop} (hK:K (.d r)):bnOp Θ o op t x y K:=by
 unfold xbn at h;split at h
 ·split at h
  ·exact ⟨r,h,hK⟩
  ·exact ⟨r,h,hK⟩
  ·split at h
   ·rename_i he;unfold bnOp;simp only;exact ⟨he,r,h,hK⟩
   ·cases h
 ·exact ⟨r,h,hK⟩
 all_goals (repeat' (split at h)) <;> first | (cases h;done) | (simp only [Option.some.injEq] at h;subst h;simp_all [bnOp])
def oneX (o:Nat→Option AO):SV→Bool
 | .d x=>x.leaf
 | .loc t g=>oneC o (.loc t g)
 | _=>false
theorem oneX_C {o:Nat→Option AO} {c:SV} (h:oneX o c=true):oneC o c=true:=by
 cases c <;> simp_all [oneX,oneC]
def xld (o:Nat→Option AO) (t:TypeId) (x:SV):Option SV:=
 match Θ t with
 | none=>none
 | some i=>match x with
  | .loc k f=>match o k with
   | some (.box cs)=>match i.k.agg with
    | true=>match allD ((cs.drop f).take i.sz) with
     | some ds=>if ds.length=i.sz∧ds.all D.leaf=true then some (.d (.agg ds)) else none
     | none=>if ((cs.drop f).take i.sz).length=i.sz∧((cs.drop f).take i.sz).all (oneX o)=true then some (.ag ((cs.drop f).take i.sz)) else none
    | false=>cs[f]?
   | _=>none
  | .el x=>if x.leaf=!i.k.agg∧x.width=i.sz then some (.d x) else none
  | _=>none
theorem xld_ok {o:Nat→Option AO} {t:TypeId} {x:SV} {r:SV} (h:xld Θ o t x=some r) {K:SV→Prop} (hK:K r):ldOp Θ o t x K:=by
 unfold xld at h;split at h
 ·cases h
 ·rename_i i hi;refine ⟨i,hi,?_⟩;split at h
  ·split at h
   ·rename_i cs hcs;refine ⟨cs,hcs,?_⟩;split at h
    ·rename_i ha;rw [if_pos ha];split at h
     ·rename_i ds hds;split at h
      ·rename_i hc;simp only [Option.some.injEq] at h;subst h;exact .inl ⟨ds,hds,hc.1,hc.2,hK⟩
      ·cases h
     ·split at h
      ·rename_i hc;simp only [Option.some.injEq] at h;subst h;exact .inr ⟨hc.1,List.all_eq_true.2 fun c hm=>oneX_C (List.all_eq_true.1 hc.2 c hm),hK⟩
      ·cases h
    ·rename_i ha;rw [if_neg (by simp [ha])];exact ⟨r,h,hK⟩
   ·cases h
  ·split at h
   ·rename_i hc;simp only [Option.some.injEq] at h;subst h;exact ⟨hc.1,hc.2,hK⟩
   ·cases h
  ·cases h
def xst (o:TM AO) (t:TypeId) (x y:SV):Option (TM AO):=
 match Θ t with
 | none=>none
 | some i=>match y.cells o.get with
  | none=>none
  | some ys=>if ys.length=i.sz then match x with
   | .loc k f=>match o.get k with
    | some (.box cs)=>if f+ys.length≤cs.length then some (o.set k (some (.box (cs.take f++ys++cs.drop (f+ys.length))))) else none
    | _=>none
   | _=>none
   else none
theorem xst_ok {o:TM AO} {t:TypeId} {x y:SV} {r:TM AO} (h:xst Θ o t x y=some r) {K:(Nat→Option AO)→Prop} (hK:K r.get):stOp Θ o.get t x y K:=by
 unfold xst at h;split at h
 ·cases h
 ·rename_i i hi;split at h
  ·cases h
  ·rename_i ys hys;split at h
   ·rename_i hl;refine ⟨i,ys,hi,hys,hl,?_⟩;split at h
    ·split at h
     ·rename_i cs hcs;split at h
      ·rename_i hle;simp only [Option.some.injEq] at h;subst h;rw [TM.get_set] at hK;exact ⟨cs,hcs,hle,hK⟩
      ·cases h
     ·cases h
    ·cases h
   ·cases h
def xfd (o:Nat→Option AO) (t:TypeId) (x:SV) (f:Nat):Option SV:=
 match Θ t with
 | none=>none
 | some i=>match i.k with
  | .struct fs=>match fs[f]? with
   | none=>none
   | some (off,ft)=>match Θ ft with
    | none=>none
    | some j=>if j.sz=0 then none else match x with
     | .loc k g=>match o k with
      | some (.box _)=>some (.loc k (g+off))
      | _=>none
     | .el x=>(x.sub off j.sz j.k.agg).map .el
     | .rel k q g=>match o k with
      | some (.row _ _ _)=>some (.rel k q (g+off))
      | _=>none
     | _=>none
  | _=>none
theorem xfd_ok {o:Nat→Option AO} {t:TypeId} {x:SV} {f:Nat} {r:SV} (h:xfd Θ o t x f=some r) {K:SV→Prop} (hK:K r):fdOp Θ o t x f K:=by
 unfold xfd at h;split at h
 ·cases h
 ·rename_i i hi;split at h
  ·rename_i fs hk;split at h
   ·cases h
   ·rename_i off ft hf;split at h
    ·cases h
    ·rename_i j hj;split at h
     ·cases h
     ·rename_i hz;refine ⟨i,fs,off,ft,j,hi,hk,hf,hj,hz,?_⟩;split at h
      ·split at h
       ·rename_i cs hcs;simp only [Option.some.injEq] at h;subst h;exact ⟨⟨_,hcs⟩,hK⟩
       ·cases h
      ·obtain ⟨y,h1,rfl⟩:=Option.map_eq_some_iff.1 h;exact ⟨y,h1,hK⟩
      ·split at h
       ·rename_i e z xs hcs;simp only [Option.some.injEq] at h;subst h;exact ⟨⟨_,_,_,hcs⟩,hK⟩
       ·cases h
      ·cases h
  ·cases h
def xfv (t:TypeId) (x:SV) (f:Nat):Option SV:=
 match Θ t with
 | none=>none
 | some i=>match i.k with
  | .struct fs=>match fs[f]? with
   | none=>none
   | some (off,ft)=>match Θ ft with
    | none=>none
    | some j=>match x with
     | .d x=>(x.sub off j.sz j.k.agg).map .d
     | _=>none
  | _=>none
theorem xfv_ok {t:TypeId} {x:SV} {f:Nat} {r:SV} (h:xfv Θ t x f=some r) {K:SV→Prop} (hK:K r):fvOp Θ t x f K:=by
 unfold xfv at h;split at h
 ·cases h
 ·rename_i i hi;split at h
  ·rename_i fs hk;split at h
   ·cases h
   ·rename_i off ft hf;split at h
    ·cases h
    ·rename_i j hj;refine ⟨i,fs,off,ft,j,hi,hk,hf,hj,?_⟩;split at h
     ·obtain ⟨y,h1,rfl⟩:=Option.map_eq_some_iff.1 h;exact ⟨y,h1,hK⟩
     ·cases h
  ·cases h
def xix (o:Nat→Option AO) (t:TypeId) (x ix:SV):Option SV:=
 match Θ t with
 | none=>none
 | some i=>match ix with
  | .d (.int _ n)=>if n < 0 then none else match i.k with
   | .slice e=>match Θ e with
    | none=>none
    | some j=>match x with
     | .d (.sl z xs)=>if z=j.sz then (xs[n.toNat]?).map .el else none
     | .row q=>match o q with
      | some (.row _ z xs)=>if z=j.sz∧n.toNat < xs.length then some (.rel q n.toNat 0) else none
      | _=>none
     | _=>none
   | .arr m e=>match Θ e with
    | none=>none
    | some j=>match x with
     | .loc q f=>match o q with
      | some (.box _)=>if n.toNat < m then some (.loc q (f+n.toNat * j.sz)) else none
      | _=>none
     | _=>none
   | _=>none
  | _=>none
theorem xix_ok {o:Nat→Option AO} {t:TypeId} {x ix:SV} {r:SV} (h:xix Θ o t x ix=some r) {K:SV→Prop} (hK:K r):ixOp Θ o t x ix K:=by
 unfold xix at h;split at h
 ·cases h
 ·rename_i i hi;split at h
  ·rename_i k n;split at h
   ·cases h
   ·rename_i hn;split at h
    ·rename_i e hk;split at h
     ·cases h
     ·rename_i j hj;refine ⟨i,e,j,k,n,hi,.inl hk,hj,rfl,by omega,?_⟩;split at h
      ·split at h
       ·rename_i hz;obtain ⟨y,h1,rfl⟩:=Option.map_eq_some_iff.1 h;exact ⟨hk,hz,y,h1,hK⟩
       ·cases h
      ·split at h
       ·split at h
        ·rename_i hz;obtain ⟨rfl,hlt⟩:=hz;simp only [Option.some.injEq] at h;subst h;rename_i hq;exact ⟨hk,_,_,hq,hlt,hK⟩
        ·cases h
       ·cases h
      ·cases h
    ·rename_i m e hk;split at h
     ·cases h
     ·rename_i j hj;split at h
      ·split at h
       ·rename_i hq;split at h
        ·rename_i hlt;simp only [Option.some.injEq] at h;subst h;exact ⟨i,e,j,k,n,hi,.inr ⟨m,hk,hlt⟩,hj,rfl,by omega,⟨m,hk⟩,⟨_,hq⟩,hK⟩
        ·cases h
       ·cases h
      ·cases h
    ·cases h
  ·cases h
def xco (o:Nat→Option AO) (src dst:TypeId) (x:SV):Option SV:=
 match Θ src with
 | none=>none
 | some i=>match Θ dst with
  | none=>none
  | some j=>match x with
   | .d (.int _ n)=>match j.k with
    | .int k'=>some (.d (.int k' (k'.wrap n)))
    | .str=>match i.k with
     | .int _=>some (.d (.str (Utf8.encode n).data.toList))
     | _=>none
    | _=>none
   | .d (.str b)=>match i.k with
    | .str=>match j.k with
     | .str=>some (.d (.str b))
     | .slice e=>match Θ e with
      | none=>none
      | some je=>match je.k with
       | .int .u8=>if b.length≤9223372036854775807 then some (.d (.sl 1 (bytesD b))) else none
       | _=>none
     | _=>none
    | _=>none
   | x=>match j.k with
    | .str=>match i.k with
     | .slice e=>match Θ e with
      | none=>none
      | some je=>match je.k with
       | .int .u8=>match srcOf o 1 x with
        | none=>none
        | some ys=>(byteL ys).map fun b=>.d (.str b)
       | _=>none
     | _=>none
    | _=>none
theorem xco_ok {o:Nat→Option AO} {src dst:TypeId} {x:SV} {r:SV} (h:xco Θ o src dst x=some r) {K:SV→Prop} (hK:K r):coOp Θ o src dst x K:=by
 unfold xco at h;split at h
 ·cases h
 ·rename_i i hi;split at h
  ·cases h
  ·rename_i j hj;refine ⟨i,j,hi,hj,?_⟩;split at h
   ·split at h
    ·rename_i k' hk;simp only [Option.some.injEq] at h;subst h;simp only [hk];exact hK
    ·rename_i hk;split at h
     ·rename_i q hq;simp only [Option.some.injEq] at h;subst h;simp only [hk];exact ⟨⟨q,hq⟩,hK⟩
     ·cases h
    ·cases h
   ·split at h
    ·rename_i hi2;refine ⟨hi2,?_⟩;split at h
     ·rename_i hk;simp only [Option.some.injEq] at h;subst h;simp only [hk];exact hK
     ·rename_i e hk;split at h
      ·cases h
      ·rename_i je he;split at h
       ·rename_i hje;split at h
        ·rename_i hle;simp only [Option.some.injEq] at h;subst h;simp only [hk];exact ⟨⟨je,he,hje⟩,hle,hK⟩
        ·cases h
       ·cases h
     ·cases h
    ·cases h
   ·rename_i x h1 h2;split at h
    ·rename_i hk;split at h
     ·rename_i e hik;split at h
      ·cases h
      ·rename_i je he;split at h
       ·rename_i hje;split at h
        ·cases h
        ·rename_i ys hys;obtain ⟨b,hb,rfl⟩:=Option.map_eq_some_iff.1 h;split
         ·rename_i a b;exact absurd rfl (h1 _ _)
         ·rename_i b;exact absurd rfl (h2 _)
         ·exact ⟨hk,⟨e,je,hik,he,hje⟩,ys,b,hys,hb,hK⟩
       ·cases h
     ·cases h
    ·cases h
theorem mxhi {hi mx:Option SV} (h:mx.isNone=true∨hi.isNone=false):mx=none∨hi≠none:=by cases mx <;> cases hi <;> simp_all
def xsl (o:TM AO) (nk:Nat) (t:TypeId) (x:SV) (lo hi mx:Option SV):Option XR:=
 match Θ t with
 | none=>none
 | some i=>match x with
  | .d (.str b)=>match i.k,mx with
   | .str,none=>match bndO b.length b.length hi with
    | none=>none
    | some h=>match bndO h 0 lo with
     | none=>none
     | some l=>some (.d (.str ((b.take h).drop l)),o,nk)
   | _,_=>none
  | .d .nil=>match i.k with
   | .slice e=>match Θ e,mx,bndO 0 0 hi,bndO 0 0 lo with
    | some _,none,some 0,some 0=>some (.d .nil,o,nk)
    | _,_,_,_=>none
   | _=>none
  | .d (.sl z xs)=>match i.k with
   | .slice e=>match Θ e with
    | none=>none
    | some j=>if j.sz=z∧(mx.isNone=true∨hi.isNone=false) then match bndO xs.length xs.length mx with
     | none=>none
     | some m=>match bndO m m hi with
      | none=>none
      | some h=>match bndO h 0 lo with
       | none=>none
       | some l=>some (.d (.sl z ((xs.take h).drop l)),o,nk)
     else none
   | _=>none
  | .row q=>match i.k with
   | .slice e=>match Θ e with
    | none=>none
    | some j=>match o.get q,mx with
     | some (.row e' z xs),none=>if e'=e∧z=j.sz then match bndO xs.length xs.length hi with
      | none=>none
      | some h=>match bndO h 0 lo with
       | some 0=>some (.row nk,(o.set q none).set nk (some (.row e j.sz (xs.take h))),nk+1)
       | _=>none
      else none
     | _,_=>none
   | _=>none
  | _=>none
theorem xsl_ok {o:TM AO} {nk:Nat} {t:TypeId} {x:SV} {lo hi mx:Option SV} {r:SV} {o':TM AO} {nk':Nat} (h:xsl Θ o nk t x lo hi mx=some (r,o',nk')) {K:SV→(Nat→Option AO)→Nat→Prop} (hK:K r o'.get nk'):slOp Θ o.get nk t x lo hi mx K:=by
 unfold xsl at h;split at h
 ·cases h
 ·rename_i i hi';split at h
  ·split at h
   ·rename_i hk;split at h
    ·cases h
    ·rename_i m hm;split at h
     ·cases h
     ·rename_i l hl;simp only [Option.some.injEq,Prod.mk.injEq] at h;obtain ⟨rfl,rfl,rfl⟩:=h;exact ⟨⟨i,hi',hk⟩,rfl,m,l,hm,hl,hK⟩
   ·cases h
  ·split at h
   ·rename_i e hk;split at h
    ·rename_i j he h1 h2;simp only [Option.some.injEq,Prod.mk.injEq] at h;obtain ⟨rfl,rfl,rfl⟩:=h;exact ⟨⟨i,e,j,hi',hk,he⟩,.inl rfl,rfl,h1,h2,hK⟩
    ·cases h
   ·cases h
  ·split at h
   ·rename_i e hk;split at h
    ·cases h
    ·rename_i j hj;split at h
     ·rename_i hc;split at h
      ·cases h
      ·rename_i m hm;split at h
       ·cases h
       ·rename_i p hp;split at h
        ·cases h
        ·rename_i l hl;simp only [Option.some.injEq,Prod.mk.injEq] at h;obtain ⟨rfl,rfl,rfl⟩:=h;exact ⟨⟨i,e,j,hi',hk,hj,hc.1⟩,mxhi hc.2,m,p,l,hm,hp,hl,hK⟩
     ·cases h
   ·cases h
  ·split at h
   ·rename_i e hk;split at h
    ·cases h
    ·rename_i j hj;split at h
     ·rename_i hq;split at h
      ·rename_i hc;obtain ⟨rfl,rfl⟩:=hc;split at h
       ·cases h
       ·rename_i p hp;split at h
        ·rename_i hl;simp only [Option.some.injEq,Prod.mk.injEq] at h;obtain ⟨rfl,rfl,rfl⟩:=h;rw [TM.get_set,TM.get_set] at hK;exact ⟨i,_,j,_,p,hi',hk,hj,hq,rfl,hp,hl,hK⟩
        ·cases h
      ·cases h
     ·cases h
   ·cases h
  ·cases h
def xbs (o:TM AO) (nk:Nat) (t:TypeId) (n:Nat) (parts:List (Nat×SV)):Option XR:=
  match Θ t with
  | none=>none
  | some i=>match i.k with
    | .slice e=>match Θ e with
      | none=>none
      | some j=>match j.z with
        | none=>none
        | some l=>if l.length=j.sz∧0 < j.sz∧n * j.sz≤16777216 then match partsL j.sz 0 parts with
          | none=>none
          | some xs=>if xs.length=n then
              if n=0 then some (.row nk,o.set nk (some (.row e j.sz xs)),nk+1) else some (.dx j.sz xs,o,nk)
            else none
          else none
    | _=>none
theorem xbs_ok {o:TM AO} {nk:Nat} {t:TypeId} {n:Nat} {parts:List (Nat×SV)} {r:SV} {o':TM AO} {nk':Nat} (h:xbs Θ o nk t n parts=some (r,o',nk')) {K:SV→(Nat→Option AO)→Nat→Prop} (hK:K r o'.get nk'):bsOp Θ o.get nk t n parts K:=by
 unfold xbs at h;split at h
 ·cases h
 ·rename_i i hi;split at h
  ·rename_i e hk;split at h
   ·cases h
   ·rename_i j hj;split at h
    ·cases h
    ·rename_i l hz;split at h
     ·rename_i hc;split at h
      ·cases h
      ·rename_i xs hxs;split at h
       ·rename_i hn;refine ⟨i,e,j,l,xs,hi,hk,hj,hz,hc.1,hc.2.1,hxs,hn,hc.2.2,?_⟩;split at h
        ·rename_i h0;simp only [Option.some.injEq,Prod.mk.injEq] at h;obtain ⟨rfl,rfl,rfl⟩:=h;rw [if_pos h0];rw [TM.get_set] at hK;exact hK
        ·rename_i h0;simp only [Option.some.injEq,Prod.mk.injEq] at h;obtain ⟨rfl,rfl,rfl⟩:=h;rw [if_neg h0];exact .inr (.inl hK)
       ·cases h
     ·cases h
  ·cases h
def xbu (t:TypeId) (parts:List (Nat×SV)):Option SV:=
 match Θ t with
 | none=>none
 | some i=>match i.k with
  | .struct fs=>match i.z with
   | none=>none
   | some l=>(fillL (placeOf Θ fs) l parts).map fun ds=>.d (.agg ds)
  | _=>none
theorem xbu_ok {t:TypeId} {parts:List (Nat×SV)} {r:SV} (h:xbu Θ t parts=some r) {K:SV→Prop} (hK:K r):buOp Θ t parts K:=by
 unfold xbu at h;split at h
 ·cases h
 ·rename_i i hi;split at h
  ·rename_i fs hk;split at h
   ·cases h
   ·rename_i l hz;obtain ⟨ds,hd,rfl⟩:=Option.map_eq_some_iff.1 h;exact ⟨i,fs,l,ds,hi,hk,hz,hd,hK⟩
  ·cases h
def isStr:TK→Bool
 | .str=>true
 | _=>false
def isSl:TK→Bool
 | .slice _=>true
 | _=>false
theorem isStr_ok {k:TK} (h:isStr k=true):k=.str:=by cases k <;> simp_all [isStr]
theorem isSl_ok {k:TK} (h:isSl k=true):∃ e,k=.slice e:=by cases k <;> simp_all [isSl]
def xle (o:Nat→Option AO) (ts:List TypeId) (x:SV):Option SV:=
  match ts with
  | [t]=>match Θ t with
    | none=>none
    | some i=>match (match x with
        | .d (.str _)=>isStr i.k
        | _=>isSl i.k) with
      | true=>(lenD o x).map fun (n:Nat)=>SV.d (.int .i64 (n:Int))
      | false=>none
  | _=>none
theorem xle_ok {o:Nat→Option AO} {ts:Array TypeId} {x:SV} {r:SV} (h:xle Θ o ts.toList x=some r) {K:SV→Prop} (hK:K r):leOp Θ o ts x K:=by
 unfold xle at h;split at h
 ·rename_i t ht;have hts:ts=#[t]:=by cases ts;simp_all
  split at h
  ·cases h
  ·rename_i i hi;split at h
   ·rename_i hc;obtain ⟨n,hn,rfl⟩:=Option.map_eq_some_iff.1 h;refine ⟨t,i,hts,hi,?_,n,hn,hK⟩;split at hc
    ·exact isStr_ok hc
    ·rename_i hx;split
     ·rename_i b;exact absurd rfl (hx b)
     ·exact isSl_ok hc
   ·cases h
 ·cases h
def xap (o:TM AO) (nk:Nat) (ts:List TypeId) (x y:SV):Option XR:=
  match ts with
  | [t,u]=>match Θ t with
    | none=>none
    | some i=>match i.k with
      | .slice e=>match Θ e with
        | none=>none
        | some j=>match j.z with
          | none=>none
          | some l=>match dstOf o.get e j.sz x with
            | none=>none
            | some (q,xs)=>match (match y with
                | .d (.str b)=>match Θ u with
                  | none=>none
                  | some v=>match v.k,j.k,l with
                    | .str,.int .u8,[.int .u8 0]=>if j.sz=1∧j.bys=1 then some (b.map fun (c:UInt8)=>D.int .u8 (c.toNat:Int)) else none
                    | _,_,_=>none
                | y=>if u=t then srcOf o.get j.sz y else none) with
              | none=>none
              | some ys=>if l.length=j.sz∧0 < j.sz∧xs.length+ys.length≤9223372036854775807∧(xs.length+ys.length) * j.bys≤140737488355328 then
                  some (.row nk,(match q with
                    | none=>o
                    | some t=>o.set t none).set nk (some (.row e j.sz (xs++ys))),nk+1)
                else none
      | _=>none
  | _=>none
theorem xap_ok {o:TM AO} {nk:Nat} {ts:Array TypeId} {x y:SV} {r:SV} {o':TM AO} {nk':Nat} (h:xap Θ o nk ts.toList x y=some (r,o',nk')) {K:SV→(Nat→Option AO)→Nat→Prop} (hK:K r o'.get nk'):apOp Θ o.get nk ts x y K:=by
 unfold xap at h;split at h
 ·rename_i t u ht;have hts:ts=#[t,u]:=by cases ts;simp_all
  split at h
  ·cases h
  ·rename_i i hi;split at h
   ·rename_i e hk;split at h
    ·cases h
    ·rename_i j hj;split at h
     ·cases h
     ·rename_i l hz;split at h
      ·cases h
      ·rename_i q xs hd;split at h
       ·cases h
       ·rename_i ys hys;split at h
        ·rename_i hc;simp only [Option.some.injEq,Prod.mk.injEq] at h;obtain ⟨rfl,rfl,rfl⟩:=h;refine ⟨t,u,i,e,j,l,q,xs,ys,hts,hi,hk,hj,hz,hc.1,hc.2.1,hd,?_,hc.2.2.1,hc.2.2.2,?_⟩
         ·split at hys
          ·split at hys
           ·cases hys
           ·rename_i v hv;split at hys
            ·rename_i _ h1 h2;split at hys
             ·rename_i h4;simp only [Option.some.injEq] at hys;subst hys;exact ⟨⟨v,hv,h1⟩,h2,h4.1,h4.2,rfl,rfl⟩
             ·cases hys
            ·cases hys
          ·rename_i hx;split at hys
           ·rename_i hu;split
            ·rename_i b;exact absurd rfl (hx b)
            ·exact ⟨hu,hys⟩
           ·cases hys
         ·rw [TM.get_set] at hK;cases q with
          | none=>exact hK
          | some q=>rw [TM.get_set] at hK;exact hK
        ·cases h
   ·cases h
 ·cases h
def xev (s:XS):Operand→SV
 | .tmp t=>match s.sl.get t with
  | some v=>v
  | none=>.any
 | .const v=>cst v
 | .func f=>.clo f [] []
 | .global _=>.any
theorem xev_eq (s:XS) (x:Operand):xev s x=ev s.st.sl x:=by
 cases x <;> simp only [xev,ev,XS.st]
 split <;> simp_all
def itAt:RO→Option (List UInt8×Nat)
 | .ob (.stringIter b pos)=>some (b.data.toList,pos)
 | _=>none
theorem itAt_ok {ob:RO} {l:List UInt8} {pos:Nat} (h:itAt ob=some (l,pos)):ob=itOb l pos:=by
 unfold itAt at h;split at h
 ·rename_i b p;simp only [Option.some.injEq,Prod.mk.injEq] at h;obtain ⟨rfl,rfl⟩:=h;obtain ⟨⟨a⟩⟩:=b;rfl
 ·cases h
def xOp0 (op:Op) (s:XS):Option XR:=
 match op with
 | .move x=>some (xev s x,s.o,s.nk)
 | .assign x=>some (xev s x,s.o,s.nk)
 | .pick c x y=>match xev s c with
  | .d (.bool true)=>some (xev s x,s.o,s.nk)
  | .d (.bool false)=>some (xev s y,s.o,s.nk)
  | _=>none
 | .alloc e=>match Θ e with
  | none=>none
  | some i=>match i.z with
   | none=>none
   | some l=>some (.loc s.nk 0,s.o.set s.nk (some (.box (l.map .d))),s.nk+1)
 | .box e x=>match (xev s x).cells s.o.get with
  | none=>none
  | some cs=>some (.loc s.nk 0,s.o.set s.nk (some (.box cs)),s.nk+1)
 | .build t parts=>(xbu Θ t (parts.toList.map fun p=>(p.1,xev s p.2))).map fun v=>(v,s.o,s.nk)
 | .buildSlice t n parts=>xbs Θ s.o s.nk t n (parts.toList.map fun p=>(p.1,(xev s p.2)))
 | .load t x=>(xld Θ s.o.get t (xev s x)).map fun v=>(v,s.o,s.nk)
 | .store t x y=>(xst Θ s.o t (xev s x) (xev s y)).map fun o'=>(.any,o',s.nk)
 | .nilCheck x=>match xev s x with
  | .loc k f=>match s.o.get k with
   | some (.box _)=>some (.loc k f,s.o,s.nk)
   | _=>none
  | .el x=>some (.el x,s.o,s.nk)
  | .clo a b c=>some (.clo a b c,s.o,s.nk)
  | _=>none
 | .binOp b t x y _=>(xbn Θ s.o.get b t (xev s x) (xev s y)).map fun v=>(.d v,s.o,s.nk)
 | .unOp b _ x=>(unOpD b (xev s x)).map fun v=>(.d v,s.o,s.nk)
 | .convert src dst x=>(xco Θ s.o.get src dst (xev s x)).map fun v=>(v,s.o,s.nk)
 | .makeFunc fn fs cs=>match fn with
  | .func f=>some (.clo f (fs.toList.map (xev s)) (cs.toList.map (xev s)),s.o,s.nk)
  | _=>none
 | .slice t x lo hi mx=>xsl Θ s.o s.nk t (xev s x) (lo.map (xev s)) (hi.map (xev s)) (mx.map (xev s))
 | .fieldAddr t x f=>(xfd Θ s.o.get t (xev s x) f).map fun v=>(v,s.o,s.nk)
 | .field t x f=>(xfv Θ t (xev s x) f).map fun v=>(v,s.o,s.nk)
 | .indexAddr t x ix=>(xix Θ s.o.get t (xev s x) (xev s ix)).map fun v=>(v,s.o,s.nk)
 | .index t x ix=>match Θ t with
  | none=>none
  | some i=>match i.k,xev s x,xev s ix with
   | .str,.d (.str l),.d (.int _ n)=>if 0≤n∧n.toNat < l.length then some (.d (.int .u8 (bAt l n.toNat)),s.o,s.nk) else none
   | _,_,_=>none
 | .extract x q=>match xev s x with
  | .tup xs=>(xs[q]?).map fun c=>(c,s.o,s.nk)
  | _=>none
 | .call c=>match c.callee with
  | .builtin b=>match b,c.args.toList with
   | .len,[x]=>(xle Θ s.o.get c.argTypes.toList (xev s x)).map fun v=>(v,s.o,s.nk)
   | .append,[x,y]=>xap Θ s.o s.nk c.argTypes.toList (xev s x) (xev s y)
   | .max,[x,y]=>(mmD true (xev s x) (xev s y)).map fun v=>(.d v,s.o,s.nk)
   | .min,[x,y]=>(mmD false (xev s x) (xev s y)).map fun v=>(.d v,s.o,s.nk)
   | _,_=>none
  | .value x=>match xev s x with
   | .clo f fs cs=>call f (fs++c.args.toList.map (xev s)++cs) s.o s.nk
   | _=>none
  | _=>none
 | .range t x=>match Θ t with
  | none=>none
  | some i=>match i.k,xev s x with
   | .str,.d (.str l)=>some (.raw s.nk,s.o.set s.nk (some (.raw (itOb l 0))),s.nk+1)
   | _,_=>none
 | .next x true=>match xev s x with
  | .raw k=>match s.o.get k with
   | some (.raw ob)=>match itAt ob with
    | none=>none
    | some (l,pos)=>if pos < l.length then some (.tup [.d (.bool true),.d (.int .i64 pos),.d (.int .i32 (Utf8.decode ⟨l.toArray⟩ pos).1)],s.o.set k (some (.raw (itOb l (pos+(Utf8.decode ⟨l.toArray⟩ pos).2)))),s.nk)
     else some (.tup [.d (.bool false)],s.o,s.nk)
   | _=>none
  | _=>none
 | _=>none
end
theorem xOp0_ok {P:Program} {Θ:Tab} {call:Nat→List SV→TM AO→Nat→Option XR} (hc:∀ f asx o nk r o' nk',call f asx o nk=some (r,o',nk')→Spec P f asx o.get nk fun r2 o2 n2=>r2=r∧o2=o'.get∧n2=nk')
    {op:Op} {s:XS} {r:SV} {o':TM AO} {nk':Nat} (h:xOp0 Θ call op s=some (r,o',nk')) {K:SV→(Nat→Option AO)→Nat→Prop} (hK:K r o'.get nk'):vOp0 P Θ op s.st K:=by
  have hev:∀ x,xev s x=ev s.st.sl x:=xev_eq s;have hev2:xev s=ev s.st.sl:=funext hev;have ho:s.st.o=s.o.get:=rfl;have hn:s.st.nk=s.nk:=rfl;have mp:∀ {α:Type} {x:Option α} {f:α→XR},x.map f=some (r,o',nk')→∃ v,x=some v∧f v=(r,o',nk'):=fun h=>by simpa using h
  unfold xOp0 at h;simp only [hev2] at h;cases op with
  | move x=>simp only [Option.some.injEq,Prod.mk.injEq] at h;obtain ⟨rfl,rfl,rfl⟩:=h;exact hK
  | assign x=>simp only [Option.some.injEq,Prod.mk.injEq] at h;obtain ⟨rfl,rfl,rfl⟩:=h;exact hK
  | pick c x y=>
    simp only at h;split at h
    · rename_i hb;simp only [Option.some.injEq,Prod.mk.injEq] at h;obtain ⟨rfl,rfl,rfl⟩:=h;exact ⟨true,hb,hK⟩
    · rename_i hb;simp only [Option.some.injEq,Prod.mk.injEq] at h;obtain ⟨rfl,rfl,rfl⟩:=h;exact ⟨false,hb,hK⟩
    · cases h
  | alloc e=>
    simp only at h;split at h
    · cases h
    · rename_i i hi;split at h
      · cases h
      · rename_i l hz;simp only [Option.some.injEq,Prod.mk.injEq] at h;obtain ⟨rfl,rfl,rfl⟩:=h;rw [TM.get_set] at hK;exact ⟨i,l,hi,hz,hK⟩
  | box e x=>
    simp only at h;split at h
    · cases h
    · rename_i cs hcs;simp only [Option.some.injEq,Prod.mk.injEq] at h;obtain ⟨rfl,rfl,rfl⟩:=h;rw [TM.get_set] at hK;exact ⟨cs,hcs,hK⟩
  | build t parts=>
    simp only at h;obtain ⟨v,h1,h2⟩:=mp h;simp only [Prod.mk.injEq] at h2;obtain ⟨rfl,rfl,rfl⟩:=h2;exact xbu_ok Θ h1 (K:=fun v=>K v s.st.o s.st.nk) hK
  | buildSlice t n parts=>exact xbs_ok Θ h hK
  | load t x=>
    simp only at h;obtain ⟨v,h1,h2⟩:=mp h;simp only [Prod.mk.injEq] at h2;obtain ⟨rfl,rfl,rfl⟩:=h2;exact xld_ok Θ h1 (K:=fun v=>K v s.st.o s.st.nk) hK
  | store t x y=>
    simp only at h;obtain ⟨v,h1,h2⟩:=mp h;simp only [Prod.mk.injEq] at h2;obtain ⟨rfl,rfl,rfl⟩:=h2;exact xst_ok Θ h1 (K:=fun o'=>K .any o' s.st.nk) hK
  | nilCheck x=>
    simp only at h;split at h
    · rename_i k f hx;split at h
      · rename_i cs hcs;simp only [Option.some.injEq,Prod.mk.injEq] at h;obtain ⟨rfl,rfl,rfl⟩:=h;exact ⟨by rw [hx];exact ⟨_,hcs⟩,by rw [hx];exact hK⟩
      · cases h
    · rename_i y hx;simp only [Option.some.injEq,Prod.mk.injEq] at h;obtain ⟨rfl,rfl,rfl⟩:=h;exact ⟨by rw [hx];trivial,by rw [hx];exact hK⟩
    · rename_i a b c hx;simp only [Option.some.injEq,Prod.mk.injEq] at h;obtain ⟨rfl,rfl,rfl⟩:=h;exact ⟨by rw [hx];trivial,by rw [hx];exact hK⟩
    · cases h
  | binOp b t x y u=>
    simp only at h;obtain ⟨v,h1,h2⟩:=mp h;simp only [Prod.mk.injEq] at h2;obtain ⟨rfl,rfl,rfl⟩:=h2;exact xbn_ok Θ h1 (K:=fun v=>K v s.st.o s.st.nk) hK
  | unOp b t x=>
    simp only at h;obtain ⟨v,h1,h2⟩:=mp h;simp only [Prod.mk.injEq] at h2;obtain ⟨rfl,rfl,rfl⟩:=h2;exact ⟨v,h1,hK⟩
  | convert src dst x=>
    simp only at h;obtain ⟨v,h1,h2⟩:=mp h;simp only [Prod.mk.injEq] at h2;obtain ⟨rfl,rfl,rfl⟩:=h2;exact xco_ok Θ h1 (K:=fun v=>K v s.st.o s.st.nk) hK
  | makeFunc fn fs cs=>
    cases fn with
    | func f=>
      simp only [Option.some.injEq,Prod.mk.injEq] at h;obtain ⟨rfl,rfl,rfl⟩:=h;exact hK
    | _=>cases h
  | slice t x lo hi mx=>exact xsl_ok Θ h hK
  | fieldAddr t x f=>
    simp only at h;obtain ⟨v,h1,h2⟩:=mp h;simp only [Prod.mk.injEq] at h2;obtain ⟨rfl,rfl,rfl⟩:=h2;exact xfd_ok Θ h1 (K:=fun v=>K v s.st.o s.st.nk) hK
  | field t x f=>
    simp only at h;obtain ⟨v,h1,h2⟩:=mp h;simp only [Prod.mk.injEq] at h2;obtain ⟨rfl,rfl,rfl⟩:=h2;exact xfv_ok Θ h1 (K:=fun v=>K v s.st.o s.st.nk) hK
  | indexAddr t x ix=>
    simp only at h;obtain ⟨v,h1,h2⟩:=mp h;simp only [Prod.mk.injEq] at h2;obtain ⟨rfl,rfl,rfl⟩:=h2;exact xix_ok Θ h1 (K:=fun v=>K v s.st.o s.st.nk) hK
  | index t x ix=>
    simp only at h;split at h
    · cases h
    · rename_i i hi;split at h
      · rename_i h1 h2 h3;split at h
        · rename_i hb;simp only [Option.some.injEq,Prod.mk.injEq] at h;obtain ⟨rfl,rfl,rfl⟩:=h;exact ⟨i,_,_,_,hi,h1,h2,h3,hb.1,hb.2,hK⟩
        · cases h
      · cases h
  | extract x q=>
    simp only at h;split at h
    · rename_i xs hx;obtain ⟨v,h1,h2⟩:=mp h;simp only [Prod.mk.injEq] at h2;obtain ⟨rfl,rfl,rfl⟩:=h2;exact ⟨xs,_,hx,h1,hK⟩
    · cases h
  | call c=>
    obtain ⟨callee,asx,ts⟩:=c;simp only at h;cases callee with
    | builtin b=>
      simp only at h;show blOp Θ s.st b ts asx.toList K;split at h
      · rename_i x hx;obtain ⟨v,h1,h2⟩:=mp h;simp only [Prod.mk.injEq] at h2;obtain ⟨rfl,rfl,rfl⟩:=h2;rw [hx];exact xle_ok Θ h1 (K:=fun v=>K v s.st.o s.st.nk) hK
      · rename_i x y hx;rw [hx];exact xap_ok Θ h hK
      · rename_i x y hx;obtain ⟨v,h1,h2⟩:=mp h;simp only [Prod.mk.injEq] at h2;obtain ⟨rfl,rfl,rfl⟩:=h2;rw [hx];exact ⟨v,h1,hK⟩
      · rename_i x y hx;obtain ⟨v,h1,h2⟩:=mp h;simp only [Prod.mk.injEq] at h2;obtain ⟨rfl,rfl,rfl⟩:=h2;rw [hx];exact ⟨v,h1,hK⟩
      · cases h
    | value x=>
      simp only at h;split at h
      · rename_i f fs cs hx;refine ⟨f,fs,cs,hx,?_⟩;exact (hc _ _ _ _ _ _ _ h).mono (by rintro r2 o2 n2 ⟨rfl,rfl,rfl⟩;exact hK)
      · cases h
    | _=>cases h
  | range t x=>
    simp only at h;split at h
    · cases h
    · rename_i i hi;split at h
      · rename_i h1 h2;simp only [Option.some.injEq,Prod.mk.injEq] at h;obtain ⟨rfl,rfl,rfl⟩:=h;rw [TM.get_set] at hK;exact ⟨i,_,hi,h1,h2,hK⟩
      · cases h
  | next x b=>
    cases b with
    | false=>cases h
    | true=>
      simp only at h;split at h
      · rename_i k hx;split at h
        · rename_i ob hq;split at h
          · cases h
          · rename_i l pos hit;have hob:=itAt_ok hit;subst hob;split at h
            · rename_i hlt;simp only [Option.some.injEq,Prod.mk.injEq] at h;obtain ⟨rfl,rfl,rfl⟩:=h;rw [TM.get_set] at hK;refine ⟨rfl,k,l,pos,hx,hq,?_⟩;rw [if_pos hlt];exact hK
            · rename_i hlt;simp only [Option.some.injEq,Prod.mk.injEq] at h;obtain ⟨rfl,rfl,rfl⟩:=h;refine ⟨rfl,k,l,pos,hx,hq,?_⟩;rw [if_neg hlt];exact hK
        · cases h
      · cases h
  | _=>cases h
def setO2 (o:TM AO):List (Nat×Option AO)→TM AO
 | []=>o
 | (k,x) :: r=>setO2 (o.set k x) r
theorem setO2_get:∀ (l:List (Nat×Option AO)) (o:TM AO),(setO2 o l).get=upds o.get l
 | [],o=>rfl
 | (k,x) :: r,o=>by rw [setO2,setO2_get r,TM.get_set];rfl
def xOp (Θ:Tab) (call:Nat→List SV→TM AO→Nat→Option XR) (op:Op) (s:XS):Option XR:=
 match nQ Θ op (xev s) s.o.get with
 | some v=>some (v,s.o,s.nk)
 | none=>match nW0 Θ op (xev s) s.o.get s.nk with
  | some (v,l,nk')=>some (v,setO2 s.o l,nk')
  | none=>match xOp0 Θ call op s with
   | some r=>some r
   | none=>match nWF Θ op (xev s) s.o.get s.nk op.operands.toList with
    | some (v,l,nk')=>some (v,setO2 s.o l,nk')
    | none=>none
theorem xOp_ok {P:Program} {Θ:Tab} {call:Nat→List SV→TM AO→Nat→Option XR} (hc:∀ f asx o nk r o' nk',call f asx o nk=some (r,o',nk')→Spec P f asx o.get nk fun r2 o2 n2=>r2=r∧o2=o'.get∧n2=nk')
    {op:Op} {s:XS} {r:SV} {o':TM AO} {nk':Nat} (h:xOp Θ call op s=some (r,o',nk')) {K:SV→(Nat→Option AO)→Nat→Prop} (hK:K r o'.get nk'):vOp P Θ op s.st K:=by
  have hev:xev s=ev s.st.sl:=funext (xev_eq s);unfold xOp at h;rw [hev] at h;split at h
  · rename_i v hv;simp only [Option.some.injEq,Prod.mk.injEq] at h;obtain ⟨rfl,rfl,rfl⟩:=h;exact .inr (.inl ⟨_,hv,hK⟩)
  · split at h
    · rename_i v l nk2 hv;simp only [Option.some.injEq,Prod.mk.injEq] at h;obtain ⟨rfl,rfl,rfl⟩:=h;refine .inr (.inr ⟨_,nW_of0 hv,?_⟩);rw [setO2_get] at hK;exact hK
    · rename_i hn;split at h
      · rename_i r0 h0;simp only [Option.some.injEq] at h;subst h;exact .inl (xOp0_ok hc h0 hK)
      · split at h
        · rename_i v l nk2 hv;simp only [Option.some.injEq,Prod.mk.injEq] at h;obtain ⟨rfl,rfl,rfl⟩:=h;refine .inr (.inr ⟨_,nW_ofF hn hv,?_⟩);rw [setO2_get] at hK;exact hK
        · cases h
mutual
def D.eqb:D→D→Bool
 | .int k n,.int k2 n2=>decide (k=k2) && decide (n=n2)
 | .bool a,.bool b=>a == b
 | .str s,.str t=>decide (s=t)
 | .sl z xs,.sl z2 ys=>decide (z=z2) && D.eqbs xs ys
 | .agg xs,.agg ys=>D.eqbs xs ys
 | .nilp,.nilp=>true
 | .nil,.nil=>true
 | .nilk a,.nilk b=>decide (a=b)
 | _,_=>false
def D.eqbs:List D→List D→Bool
 | [],[]=>true
 | x :: xs,y :: ys=>D.eqb x y && D.eqbs xs ys
 | _,_=>false
end
mutual
theorem D.eqb_ok:∀ x y:D,D.eqb x y=true→x=y
 | .int k n,y,h=>by cases y <;> simp [D.eqb] at h;obtain ⟨rfl,rfl⟩:=h;rfl
 | .bool a,y,h=>by cases y <;> simp [D.eqb] at h;subst h;rfl
 | .str s,y,h=>by cases y <;> simp [D.eqb] at h;subst h;rfl
 | .sl z xs,y,h=>by
  cases y <;> simp [D.eqb] at h
  obtain ⟨rfl,h⟩:=h;rw [D.eqbs_ok xs _ h]
 | .agg xs,y,h=>by
  cases y <;> simp [D.eqb] at h
  rw [D.eqbs_ok xs _ h]
 | .nilp,y,h=>by cases y <;> simp [D.eqb] at h;rfl
 | .nil,y,h=>by cases y <;> simp [D.eqb] at h;rfl
 | .nilk k,y,h=>by cases y <;> simp [D.eqb] at h;subst h;rfl
theorem D.eqbs_ok:∀ xs ys:List D,D.eqbs xs ys=true→xs=ys
 | [],[],_=>rfl
 | [],y :: ys,h=>by simp [D.eqbs] at h
 | x :: xs,[],h=>by simp [D.eqbs] at h
 | x :: xs,y :: ys,h=>by
  simp only [D.eqbs,Bool.and_eq_true] at h;rw [D.eqb_ok x y h.1,D.eqbs_ok xs ys h.2]
end
mutual
def SV.eqb:SV→SV→Bool
 | .d x,.d y=>D.eqb x y
 | .loc a1 b1,.loc a2 b2=>decide (a1=a2) && decide (b1=b2)
 | .row a1,.row a2=>decide (a1=a2)
 | .el x,.el y=>D.eqb x y
 | .rel a1 b1 c1,.rel a2 b2 c2=>decide (a1=a2) && decide (b1=b2) && decide (c1=c2)
 | .raw a1,.raw a2=>decide (a1=a2)
 | .view a1 b1 c1 e1,.view a2 b2 c2 e2=>decide (a1=a2) && decide (b1=b2) && decide (c1=c2) && decide (e1=e2)
 | .dx z xs,.dx z2 ys=>decide (z=z2) && D.eqbs xs ys
 | .tup xs,.tup ys=>SV.eqbs xs ys
 | .ag xs,.ag ys=>SV.eqbs xs ys
 | .clo f a b,.clo g a2 b2=>decide (f=g) && SV.eqbs a a2 && SV.eqbs b b2
 | .any,.any=>true
 | _,_=>false
def SV.eqbs:List SV→List SV→Bool
 | [],[]=>true
 | x :: xs,y :: ys=>SV.eqb x y && SV.eqbs xs ys
 | _,_=>false
end
mutual
theorem SV.eqb_ok:∀ {x y:SV},SV.eqb x y=true→x=y
 | .d x,y,h=>by cases y <;> simp [SV.eqb] at h;rw [D.eqb_ok _ _ h]
 | .loc a b,y,h=>by cases y <;> simp [SV.eqb] at h;obtain ⟨rfl,rfl⟩:=h;rfl
 | .row a,y,h=>by cases y <;> simp [SV.eqb] at h;subst h;rfl
 | .el x,y,h=>by cases y <;> simp [SV.eqb] at h;rw [D.eqb_ok _ _ h]
 | .rel a b c,y,h=>by cases y <;> simp [SV.eqb] at h;obtain ⟨⟨rfl,rfl⟩,rfl⟩:=h;rfl
 | .raw a,y,h=>by cases y <;> simp [SV.eqb] at h;subst h;rfl
 | .view a b c e,y,h=>by cases y <;> simp [SV.eqb] at h;obtain ⟨⟨⟨rfl,rfl⟩,rfl⟩,rfl⟩:=h;rfl
 | .dx z xs,y,h=>by cases y <;> simp [SV.eqb] at h;obtain ⟨rfl,h⟩:=h;rw [D.eqbs_ok _ _ h]
 | .tup xs,y,h=>by cases y <;> simp [SV.eqb] at h;rw [SV.eqbs_ok h]
 | .ag xs,y,h=>by cases y <;> simp [SV.eqb] at h;rw [SV.eqbs_ok h]
 | .clo f a b,y,h=>by cases y <;> simp [SV.eqb] at h;obtain ⟨⟨rfl,h1⟩,h2⟩:=h;rw [SV.eqbs_ok h1,SV.eqbs_ok h2]
 | .any,y,h=>by cases y <;> first | rfl | (simp [SV.eqb] at h)
theorem SV.eqbs_ok:∀ {xs ys:List SV},SV.eqbs xs ys=true→xs=ys
 | [],[],_=>rfl
 | [],y :: ys,h=>by simp [SV.eqbs] at h
 | x :: xs,[],h=>by simp [SV.eqbs] at h
 | x :: xs,y :: ys,h=>by
  simp only [SV.eqbs,Bool.and_eq_true] at h;rw [SV.eqb_ok h.1,SV.eqbs_ok h.2]
end
def XS.frz (s:XS) (t:Nat):XS:=
 match s.o.get t with
 | some (.row _ z xs)=>⟨s.sl.mapT (SV.frz t (.sl z xs)),(s.o.mapT (AO.frz t (.sl z xs))).set t none,s.nk⟩
 | _=>s
theorem XS.frz_ok {E:Ent} {s:XS} {a:Act} {w:World} (t:Nat) (h:Rel E s.st a w):Rel E (s.frz t).st a w:=by
 unfold XS.frz;split
 ·rename_i e z xs ht;have:=h.freezeA 0 (t:=t) (e:=e) (z:=z) (xs:=xs) ht;have e1:(XS.st ⟨s.sl.mapT (SV.frz t (.sl z xs)),(s.o.mapT (AO.frz t (.sl z xs))).set t none,s.nk⟩)={ sl:=fun u=>(s.st.sl u).frz t (.sl z xs),o:=frzo 0 s.st.o t (.sl z xs),nk:=s.st.nk }:=by
   simp only [XS.st,St.mk.injEq,and_true];constructor
   ·funext u;rw [TM.get_mapT];cases s.sl.get u <;> rfl
   ·rw [TM.get_set];funext u;simp only [upd,frzo,TM.get_mapT];split
    ·rfl
    ·simp
  rw [e1];exact this
 ·exact h
def XS.frzs (s:XS):List Nat→XS
 | []=>s
 | t :: r=>(s.frz t).frzs r
theorem XS.frzs_ok {E:Ent} {a:Act} {w:World}:∀ (l:List Nat) {s:XS},Rel E s.st a w→Rel E (s.frzs l).st a w
 | [],s,h=>h
 | t :: r,s,h=>frzs_ok r (s.frz_ok t h)
def rowsV:SV→List Nat
 | .row t=>[t]
 | .rel t _ _=>[t]
 | .view t _ _ _=>[t]
 | _=>[]
def rowsL:List SV→List Nat
 | []=>[]
 | c :: r=>rowsV c++rowsL r
def rowsO (o:TM AO):SV→List Nat
 | .row t=>[t]
 | .rel t _ _=>[t]
 | .view t _ _ _=>[t]
 | .loc t _=>match o.get t with
  | some (.box cs)=>rowsL cs
  | _=>[]
 | .tup cs=>rowsL cs
 | _=>[]
section
variable (Θ:Tab) (nofr:Nat→Bool) (call:Nat→List SV→TM AO→Nat→Option XR)
def putD (sl:TM SV) (d:Option Nat) (v:SV):TM SV:=
 match d with
 | some d=>sl.set d (some v)
 | none=>sl
theorem putD_ok (sl:TM SV) (d:Option Nat) (v:SV):(fun u=>((putD sl d v).get u).getD .any)=pt (fun u=>(sl.get u).getD .any) d v:=by
 cases d with
 | none=>rfl
 | some d=>
  simp only [putD,pt,TM.get_set];funext u;simp only [upd];split <;> rfl
theorem put_st (s:XS) (d:Option Nat) (v:SV) (o:TM AO) (nk:Nat):(XS.mk (putD s.sl d v) o nk).st={ sl:=pt s.st.sl d v,o:=o.get,nk:=nk }:=by
 simp only [XS.st,putD_ok]
def xGuard (ops:Array Oper) (sl:TM SV):Option (Nat×Bool)→Option Bool
 | none=>some true
 | some (j,want)=>match (ops[j]?).bind (·.dst) with
  | none=>none
  | some d=>match sl.get d with
   | some (.d (.bool b))=>some (if want=true then b else !b)
   | some (.tup [])=>some false
   | _=>none
theorem xGuard_ok {ops:Array Oper} {s:XS} {g:Option (Nat×Bool)} {c:Bool} (h:xGuard ops s.sl g=some c):gdc ops s.st g c:=by
 unfold xGuard at h;split at h
 ·simp only [Option.some.injEq] at h;exact h.symm
 ·rename_i j want;split at h
  ·cases h
  ·rename_i d hd;have hg:gsl ops s.st j=(s.sl.get d).getD .any:=by unfold gsl;rw [hd];rfl
   show GC (gsl ops s.st j) want c;split at h
   ·rename_i b hb;simp only [Option.some.injEq] at h;subst h;rw [hg,hb];exact .inl ⟨b,rfl,rfl⟩
   ·rename_i hb;simp only [Option.some.injEq] at h;subst h;rw [hg,hb];exact .inr ⟨false,true,by rw [cnd_F];rfl,rfl⟩
   ·cases h
def callF:Op→Option Nat
 | .call c=>match c.callee with
  | .value (.func f)=>some f
  | _=>none
 | _=>none
def opVals (op:Op) (s:XS):List SV:=op.operands.toList.map (xev s)
def preF (op:Op) (s:XS):List Nat:=
 match callF op with
 | some f=>bif nofr f then [] else rowsL (opVals op s)
 | none=>[]
def postF (op:Op) (s:XS):List Nat:=
 match op with
 | .store _ _ y=>rowsO s.o (xev s y)
 | op=>(opVals op s).flatMap (rowsO s.o)
def XS.soft (s:XS):XS:=⟨s.sl.mapT SV.soft,s.o,s.nk⟩
theorem XS.soft_ok {E:Ent} {s:XS} {a:Act} {w:World} (h:Rel E s.st a w):Rel E s.soft.st a w:=by
 obtain ⟨S,γ,h⟩:=h;have e:∀ u,(s.soft.st.sl u)=(s.st.sl u).soft:=fun u=>by
  simp only [XS.soft,XS.st,TM.get_mapT];cases s.sl.get u <;> rfl
 exact ⟨S,γ,h.sto,h.tr,fun u=>by rw [e];exact (h.sl u).soft,fun u=>by rw [e];exact SV.soft_lt (h.slt u),h.df,h.nn⟩
def xStep (ops:Array Oper) (op:Oper) (s:XS):Option XS:=
 match xGuard ops s.sl op.guard with
 | none=>none
 | some false=>some ⟨putD s.sl op.dst (.tup []),s.o,s.nk⟩
 | some true=>match s.frzs (preF nofr op.op s) with
  | s1=>match xOp Θ call op.op s1 with
   | some (v,o',nk')=>some ⟨putD s1.sl op.dst v,o',nk'⟩
   | none=>match (s1.frzs (postF op.op s1)).soft with
    | s2=>match xOp Θ call op.op s2 with
     | some (v,o',nk')=>some ⟨putD s2.sl op.dst v,o',nk'⟩
     | none=>none
def xOps (ops:Array Oper):List Oper→XS→Option XS
 | [],s=>some s
 | op :: r,s=>match xStep Θ nofr call ops op s with
  | some s'=>xOps ops r s'
  | none=>none
end
section
variable {P:Program} {Θ:Tab} {nofr:Nat→Bool} {call:Nat→List SV→TM AO→Nat→Option XR}
def CallOk (P:Program) (call:Nat→List SV→TM AO→Nat→Option XR):Prop:=∀ f asx o nk r o' nk',call f asx o nk=some (r,o',nk')→Spec P f asx o.get nk fun r2 o2 n2=>r2=r∧o2=o'.get∧n2=nk'
theorem gdc_wanted {E:Ent} {s:St} {a:Act} {w:World} {ops:Array Oper} {o:Oper} {c:Bool} (hr:Rel E s a w) (h:gdc ops s o.guard c):Region.wanted o (yielded ops a.tmps)=c:=by
 unfold gdc at h;unfold Region.wanted;split at h
 ·rename_i hg;rw [hg];exact h.symm
 ·rename_i j want hg;rw [hg];exact guard_yield hr h
theorem xStep_ok (hΘ:TabOk P Θ) (hc:CallOk P call) {E:Ent} {ops:Array Oper} {op:Oper} {s s':XS} {a:Act} {w:World} {next:Act→World→Prop} {Q:Exit→Act→World→Prop} (h:xStep Θ nofr call ops op s=some s') (hr:Rel E s.st a w) (hd:dstOk E.n op.dst=true)
    (hn:∀ a' w',Rel E s'.st a' w'→next a' w'):if Region.wanted op (yielded ops a.tmps) then op.wp P a w next Q else next (a.put op.dst undef) w:=by
  unfold xStep at h;split at h
  · cases h
  · rename_i hg;have hw:=gdc_wanted (o:=op) hr (xGuard_ok hg);rw [if_neg (by rw [hw];simp)];simp only [Option.some.injEq] at h;subst h;refine hn _ _ ?_;rw [put_st];obtain ⟨S,γ,hr⟩:=hr;exact ⟨S,γ,hr.put hd hr.sto (Tr.refl _ _ _ _ _) (.tup [] [] rfl (by simp)) trivial⟩
  · rename_i hg;have hw:=gdc_wanted (o:=op) hr (xGuard_ok hg);rw [if_pos (by rw [hw])];simp only at h;have hr1:=XS.frzs_ok (preF nofr op.op s) hr;generalize s.frzs (preF nofr op.op s)=s1 at h hr1;split at h
    · rename_i v o' nk' hx;simp only [Option.some.injEq] at h;subst h;refine op_step hΘ hr1 hd (xOp_ok hc hx (K:=fun v2 o2 n2=>v2=v∧o2=o'.get∧n2=nk') ⟨rfl,rfl,rfl⟩) ?_;rintro v2 o2 n2 a' w' ⟨rfl,rfl,rfl⟩ hr';refine hn _ _ ?_;rw [put_st];exact hr'
    · have hr2:=XS.soft_ok (XS.frzs_ok (postF op.op s1) hr1);generalize (s1.frzs (postF op.op s1)).soft=s2 at h hr2;split at h
      · rename_i v o' nk' hx;simp only [Option.some.injEq] at h;subst h;refine op_step hΘ hr2 hd (xOp_ok hc hx (K:=fun v2 o2 n2=>v2=v∧o2=o'.get∧n2=nk') ⟨rfl,rfl,rfl⟩) ?_;rintro v2 o2 n2 a' w' ⟨rfl,rfl,rfl⟩ hr';refine hn _ _ ?_;rw [put_st];exact hr'
      · cases h
theorem xOps_ok (hΘ:TabOk P Θ) (hc:CallOk P call) {E:Ent} {ops:Array Oper} {Q:Exit→Act→World→Prop} {s':XS} (hq:∀ a w,Rel E s'.st a w→Q .normal a w) :
    ∀ (l:List Oper) (s:XS) (a:Act) (w:World),(l.all fun o=>dstOk E.n o.dst)=true→Rel E s.st a w→xOps Θ nofr call ops l s=some s'→wpList P ops Q l a w
  | [],s,a,w,_,hr,h=>by
    simp only [xOps,Option.some.injEq] at h;subst h;exact hq a w hr
  | op :: r,s,a,w,hd,hr,h=>by
    simp only [List.all_cons,Bool.and_eq_true] at hd;simp only [xOps] at h;split at h
    · rename_i s1 hs1;refine wpList_step fun K hK=>?_;exact xStep_ok hΘ hc hs1 hr hd.1 fun a' w' h1=>hK a' w' (xOps_ok hΘ hc hq r s1 a' w' hd.2 h1 h)
    · cases h
end
def isW (op:Op):Bool:=
 match op with
 | .store _ _ _=>true
 | .box _ _=>true
 | .alloc _=>true
 | .makeMap _ _=>true
 | .mapUpdate _ _ _ _=>true
 | .range _ _=>true
 | .next _ _=>true
 | .buildSlice _ n _=>Nat.beq n 0
 | .makeSlice _ _ _=>true
 | .call c=>match c.callee with
  | .builtin .len=>false
  | .builtin .max=>false
  | .builtin .min=>false
  | _=>true
 | _=>false
def isQ (op:Op):Bool:=
 match op with
 | .move _=>true
 | .assign _=>true
 | .pick _ _ _=>true
 | .build _ _=>true
 | .load _ _=>true
 | .nilCheck _=>true
 | .binOp _ _ _ _ _=>true
 | .unOp _ _ _=>true
 | .convert _ _ _=>true
 | .makeFunc _ _ _=>true
 | .fieldAddr _ _ _=>true
 | .field _ _ _=>true
 | .indexAddr _ _ _=>true
 | .index _ _ _=>true
 | .extract _ _=>true
 | .buildSlice _ _ _=>true
 | .slice _ _ _ _ _=>true
 | .lookup _ _ _ _=>true
 | .call c=>match c.callee with
  | .builtin b=>match b with
   | .len=>true
   | .max=>true
   | .min=>true
   | _=>false
  | _=>false
 | _=>false
section
variable {Θ:Tab} {call:Nat→List SV→TM AO→Nat→Option XR}
theorem xq0 {op:Op} {s:XS} {r:SV} {o':TM AO} {nk':Nat} (hq:isQ op=true) (h:xOp0 Θ call op s=some (r,o',nk')) (hn:nk'=s.nk):o'=s.o:=by
 have mp:∀ {α:Type} {x:Option α} {f:α→SV},x.map (fun v=>(f v,s.o,s.nk))=some (r,o',nk')→o'=s.o:=fun h=>by
  obtain ⟨v,_,h⟩:=Option.map_eq_some_iff.1 h;simp only [Prod.mk.injEq] at h;exact h.2.1.symm
 unfold xOp0 at h;cases op <;> simp only [isQ,Bool.false_eq_true] at hq <;> simp only at h
 case move=>simp only [Option.some.injEq,Prod.mk.injEq] at h;exact h.2.1.symm
 case assign=>simp only [Option.some.injEq,Prod.mk.injEq] at h;exact h.2.1.symm
 case pick=>split at h <;> first | (simp only [Option.some.injEq,Prod.mk.injEq] at h;exact h.2.1.symm) | cases h
 case build=>exact mp h
 case load=>exact mp h
 case binOp=>exact mp (f:=.d) h
 case unOp=>exact mp (f:=.d) h
 case convert=>exact mp h
 case fieldAddr=>exact mp h
 case field=>exact mp h
 case indexAddr=>exact mp h
 case lookup=>cases h
 case nilCheck=>
  split at h
  ·split at h
   ·simp only [Option.some.injEq,Prod.mk.injEq] at h;exact h.2.1.symm
   ·cases h
  all_goals first | (simp only [Option.some.injEq,Prod.mk.injEq] at h;exact h.2.1.symm) | cases h
 case makeFunc=>split at h <;> first | (simp only [Option.some.injEq,Prod.mk.injEq] at h;exact h.2.1.symm) | cases h
 case index=>
  split at h
  ·cases h
  ·split at h
   ·split at h <;> first | (simp only [Option.some.injEq,Prod.mk.injEq] at h;exact h.2.1.symm) | cases h
   ·cases h
 case extract=>
  split at h
  ·exact mp h
  ·cases h
 case buildSlice=>
  unfold xbs at h
  repeat' (split at h)
  all_goals first | cases h;done | (simp only [Option.some.injEq,Prod.mk.injEq] at h;first | exact h.2.1.symm | omega)
 case slice=>
  unfold xsl at h
  repeat' (split at h)
  all_goals first | cases h;done | (simp only [Option.some.injEq,Prod.mk.injEq] at h;first | exact h.2.1.symm | omega)
 case call c=>
  obtain ⟨callee,asx,ts⟩:=c;cases callee with
  | builtin b=>
   simp only at h hq;split at h
   ·exact mp h
   ·simp at hq
   ·exact mp (f:=.d) h
   ·exact mp (f:=.d) h
   ·cases h
  | _=>simp at hq
theorem nW0_q {op:Op} {ev:Operand→SV} {o:Nat→Option AO} {nk:Nat} (hq:isQ op=true):nW0 Θ op ev o nk=none:=by
 cases op <;> simp only [isQ,Bool.false_eq_true] at hq <;> simp only [nW0]
 case call c=>
  obtain ⟨callee,asx,ts⟩:=c;cases callee with
  | builtin b=>cases b <;> first | (simp at hq;done) | rfl
  | _=>simp at hq
theorem nWF_q {op:Op} {ev:Operand→SV} {o:Nat→Option AO} {nk:Nat} (hq:isQ op=true):∀ l:List Operand,nWF Θ op ev o nk l=none
 | []=>rfl
 | x :: l=>by
  have ih:=nWF_q (ev:=ev) (o:=o) (nk:=nk) hq l;simp only [nWF];split
  ·split
   ·rw [nW0_q hq];exact ih
   ·exact ih
  ·exact ih
theorem xq {op:Op} {s:XS} {r:SV} {o':TM AO} {nk':Nat} (hq:isQ op=true) (h:xOp Θ call op s=some (r,o',nk')) (hn:nk'=s.nk):o'=s.o:=by
 unfold xOp at h;split at h
 ·simp only [Option.some.injEq,Prod.mk.injEq] at h;exact h.2.1.symm
 ·rw [nW0_q hq] at h;simp only at h;split at h
  ·rename_i r0 h0;simp only [Option.some.injEq] at h;subst h;exact xq0 hq h0 hn
  ·rw [nWF_q hq] at h;cases h
def xG (Θ:Tab) (call:Nat→List SV→TM AO→Nat→Option XR) (ops:Array Oper) (op:Oper) (s:XS):Option XR:=
 match xGuard ops s.sl op.guard with
 | none=>none
 | some false=>some (.tup [],s.o,s.nk)
 | some true=>xOp Θ call op.op s
def xDr (Θ:Tab) (call:Nat→List SV→TM AO→Nat→Option XR) (ops:Array Oper):List Oper→List Kd→XS→Option (List SV×List (TM AO×Nat)×TM SV)
 | [],[],s=>some ([],[],s.sl)
 | op :: r,.w _ :: ks,s=>match xG Θ call ops op s with
  | none=>none
  | some (v,o',nk')=>match xDr Θ call ops r ks ⟨putD s.sl op.dst v,o',nk'⟩ with
   | none=>none
   | some (vs,phs,sl)=>some (v :: vs,(o',nk') :: phs,sl)
 | op :: r,.q _ _ :: ks,s=>match xG Θ call ops op s with
  | none=>none
  | some (v,_,_)=>match xDr Θ call ops r ks ⟨putD s.sl op.dst v,s.o,s.nk⟩ with
   | none=>none
   | some (vs,phs,sl)=>some (v :: vs,phs,sl)
 | _,_,_=>none
def allX (n:Nat) (p:Nat→Bool) (lo:Nat):Bool:=
 match n with
 | 0=>p lo
 | n+1=>p lo && allX n p (lo+1)
def xChk (Θ:Tab) (call:Nat→List SV→TM AO→Nat→Option XR) (ops:Array Oper) (L:List (TM AO×Nat)):List Oper→List Kd→List SV→TM SV→Nat→Bool
 | [],[],[],_,_=>true
 | op :: r,.w j :: ks,v :: vs,sl,p=>decide (j=p) && xChk Θ call ops L r ks vs (putD sl op.dst v) (p+1)
 | op :: r,.q lo hi :: ks,v :: vs,sl,p=>isQ op.op && (allX (hi - lo) (fun q=>match L[q]? with
  | none=>false
  | some (o,nk)=>match xG Θ call ops op ⟨sl,o,nk⟩ with
   | none=>false
   | some (v2,_,nk2)=>SV.eqb v v2 && decide (nk2=nk)) lo) && xChk Θ call ops L r ks vs (putD sl op.dst v) p
 | _,_,_,_,_=>false
theorem xG_q {ops:Array Oper} {op:Oper} {s:XS} {v:SV} {o':TM AO} {nk':Nat} {P:Program} (hc:CallOk P call) (hq:isQ op.op=true) (h:xG Θ call ops op s=some (v,o',nk')) (hn:nk'=s.nk):gOp P Θ ops op s.st v:=by
 unfold xG at h;split at h
 ·cases h
 ·rename_i hg;have hg2:=xGuard_ok hg;simp only [Option.some.injEq,Prod.mk.injEq] at h;obtain ⟨rfl,_,_⟩:=h;unfold gOp;unfold gdc at hg2;split at hg2
  ·cases hg2
  ·rename_i j want hgu
   try rw [hgu]
   exact ⟨false,.any,hg2,fun e=>(by cases e),(cnd_F _).symm⟩
 ·rename_i hg;have hg2:=xGuard_ok hg;have ho:=xq hq h hn;subst ho;subst hn;have hv:pOp P Θ op.op s.st v:=xOp_ok hc h ⟨rfl,rfl,rfl⟩;unfold gOp;unfold gdc at hg2;split at hg2
  ·rename_i hgu;try rw [hgu]
   exact hv
  ·rename_i j want hgu
   try rw [hgu]
   exact ⟨true,v,hg2,fun _=>hv,(cnd_T v).symm⟩
theorem allX_ok {p:Nat→Bool} {R:Nat→Prop} (h:∀ q,p q=true→R q):∀ (n lo:Nat),allX n p lo=true→allP n R lo
 | 0,lo,h1=>h lo h1
 | n+1,lo,h1=>by
  simp only [allX,Bool.and_eq_true] at h1;exact ⟨h lo h1.1,allX_ok h n (lo+1) h1.2⟩
def phx (L:List (TM AO×Nat)):Nat→Ob:=fun p=>match L[p]? with
 | some (o,nk)=>(o.get,nk)
 | none=>(fun _=>none,0)
theorem xDr_ok {P:Program} (hc:CallOk P call) {ops:Array Oper} {K:St→Prop} {L:List (TM AO×Nat)} {m:Nat} {fin:XS} (hK:K fin.st) (hm:L[m]?=some (fin.o,fin.nk)) :
    ∀ (l:List Oper) (ks:List Kd) (s:XS) (vs:List SV) (phs pre:List (TM AO×Nat)) (p:Nat),xDr Θ call ops l ks s=some (vs,phs,fin.sl)→pre.length=p→L=pre++(s.o,s.nk) :: phs→
      m=p+phs.length→xChk Θ call ops L l ks vs s.sl p=true→eOps P Θ ops K (phx L) m l ks s.st.sl
  | [],[],s,vs,phs,pre,p,h,hp,hL,hmp,hk=>by
    simp only [xDr,Option.some.injEq,Prod.mk.injEq] at h;obtain ⟨rfl,rfl,h3⟩:=h;show K ⟨s.st.sl,(phx L m).1,(phx L m).2⟩;simp only [phx,hm];have:(⟨s.st.sl,fin.o.get,fin.nk⟩:St)=fin.st:=by simp only [XS.st,h3]
    rw [this];exact hK
  | [],k :: ks,s,vs,phs,pre,p,h,hp,hL,hmp,hk=>by simp [xDr] at h
  | op :: r,[],s,vs,phs,pre,p,h,hp,hL,hmp,hk=>by simp [xDr] at h
  | op :: r,.w j :: ks,s,vs,phs,pre,p,h,hp,hL,hmp,hk=>by
    simp only [xDr] at h;split at h
    · cases h
    · rename_i v o' nk' hx;split at h
      · cases h
      · rename_i vs' phs' sl' hx';simp only [Option.some.injEq,Prod.mk.injEq] at h;obtain ⟨rfl,rfl,rfl⟩:=h;simp only [xChk,Bool.and_eq_true,decide_eq_true_eq] at hk;obtain ⟨rfl,hk⟩:=hk;have hLp:L[j]?=some (s.o,s.nk):=by rw [hL,List.getElem?_append_right (by omega),hp];simp
        have hLp1:L[j+1]?=some (o',nk'):=by rw [hL,List.getElem?_append_right (by omega),hp];simp
        have ih:=xDr_ok hc hK hm r ks ⟨putD s.sl op.dst v,o',nk'⟩ vs' phs' (pre++[(s.o,s.nk)]) (j+1) hx' (by simp [hp]) (by rw [hL];simp) (by simp only [List.length_cons] at hmp;omega) hk;refine ⟨v,?_,by rw [put_st] at ih;exact ih⟩;simp only [eOp,phx,hLp,hLp1];unfold xG at hx;split at hx
        · cases hx
        · rename_i hg;simp only [Option.some.injEq,Prod.mk.injEq] at hx;obtain ⟨rfl,rfl,rfl⟩:=hx;exact ⟨false,.any,xGuard_ok hg,fun e=>(by cases e),fun _=>rfl,(cnd_F _).symm⟩
        · rename_i hg;exact ⟨true,v,xGuard_ok hg,fun _=>xOp_ok hc hx ⟨rfl,rfl,rfl⟩,fun e=>(by cases e),(cnd_T v).symm⟩
  | op :: r,.q lo hi :: ks,s,vs,phs,pre,p,h,hp,hL,hmp,hk=>by
    simp only [xDr] at h;split at h
    · cases h
    · rename_i v o' nk' hx;split at h
      · cases h
      · rename_i vs' phs' sl' hx';simp only [Option.some.injEq,Prod.mk.injEq] at h;obtain ⟨rfl,rfl,rfl⟩:=h;simp only [xChk,Bool.and_eq_true] at hk;obtain ⟨⟨hq,hall⟩,hk⟩:=hk;have ih:=xDr_ok hc hK hm r ks ⟨putD s.sl op.dst v,s.o,s.nk⟩ vs' phs' pre p hx' hp hL hmp hk;refine ⟨v,?_,by rw [put_st] at ih;exact ih⟩;simp only [eOp];refine allX_ok (fun q hqq=>?_) _ _ hall;split at hqq
        · cases hqq
        · rename_i o2 nk2 hLq;split at hqq
          · cases hqq
          · rename_i v2 o3 nk3 hg;simp only [Bool.and_eq_true,decide_eq_true_eq] at hqq;have hv:=SV.eqb_ok hqq.1;subst hv;have:=xG_q (P:=P) hc hq hg hqq.2;simp only [phx,hLq];exact this
end
def takeN (p:Nat→Bool):List Nat→Nat
 | []=>0
 | x :: r=>bif p x then takeN p r+1 else 0
def kdGo (an:List (List Nat)) (ws:List Nat):List Oper→Nat→Nat→List Kd
 | [],_,_=>[]
 | op :: r,i,j=>bif isW op.op then .w j :: kdGo an ws r (i+1) (j+1)
  else .q (takeN (fun w=>(an.getD i []).contains w) ws) (takeN (fun w=>!(an.getD w []).contains i) ws) :: kdGo an ws r (i+1) j
def wrGo:List Oper→Nat→List Nat
 | [],_=>[]
 | op :: r,i=>bif isW op.op then i :: wrGo r (i+1) else wrGo r (i+1)
section
variable (Θ:Tab) (nofr:Nat→Bool) (call:Nat→List SV→TM AO→Nat→Option XR)
def xDraw (ops:Array Oper) (s:XS):Option XS:=
  match ops.toList with
  | l=>match wrGo l 0 with
    | wr=>match kdGo (ancs l l.length) wr l 0 0 with
      | kd=>bif flowOk ops && phOk l kd wr then match xDr Θ call ops l kd s with
          | none=>none
          | some (vs,phs,sl)=>match (s.o,s.nk) :: phs with
            | L=>bif xChk Θ call ops L l kd vs s.sl 0 then match L[wr.length]? with
                | none=>none
                | some (o,nk)=>bif Nat.beq wr.length phs.length then some ⟨sl,o,nk⟩ else none
              else none
        else none
theorem xDraw_ok {P:Program} {n k0:Nat} {Q:Exit→St→Prop} (hΘ:TabOk P Θ) (hm:P.follows .mixedOrders=true) (hc:CallOk P call) {id:Nat} {ops:Array Oper} {s s':XS} (hd:(ops.toList.all fun o=>dstOk n o.dst)=true) (h:xDraw Θ call ops s=some s') (hQ:Q .normal s'.st) :
    WP P n k0 (.region id ops true) s.st Q:=by
  unfold xDraw at h;simp only at h;cases hb:flowOk ops && phOk ops.toList (kdGo (ancs ops.toList ops.toList.length) (wrGo ops.toList 0) ops.toList 0 0) (wrGo ops.toList 0) with
  | false=>rw [hb] at h;cases h
  | true=>
    rw [hb] at h;simp only [cond_true] at h;simp only [Bool.and_eq_true] at hb;split at h
    · cases h
    · rename_i vs phs sl hx;cases hk:xChk Θ call ops ((s.o,s.nk) :: phs) ops.toList (kdGo (ancs ops.toList ops.toList.length) (wrGo ops.toList 0) ops.toList 0 0) vs s.sl 0 with
      | false=>rw [hk] at h;cases h
      | true=>
        rw [hk] at h;simp only [cond_true] at h;split at h
        · cases h
        · rename_i o nk hL;cases he:Nat.beq (wrGo ops.toList 0).length phs.length with
          | false=>rw [he] at h;cases h
          | true=>
            rw [he] at h;simp only [cond_true,Option.some.injEq] at h;subst h;have hlen:=Nat.eq_of_beq_eq_true he;have:=WP.drawnW (P:=P) (Θ:=Θ) (n:=n) (k0:=k0) (Q:=Q) hΘ hm (sl:=s.st.sl) (id:=id) (ops:=ops) _ _ (phx ((s.o,s.nk) :: phs)) hd hb.1 hb.2
              (xDr_ok hc (fin:=⟨sl,o,nk⟩) hQ hL _ _ s vs phs [] 0 hx rfl rfl (by omega) hk)
            exact this
end
end Go.Proofs.YtpkcbdhjnnnkbaaGreat.Abs
