/- Part 3 of the proof that DeltaCodes: called with any changes and any bytes that hold together at most 1048576 values and letters, the law answers true, and both read afterwards as they read before. -/
import Derived.Test.YtpkcbdhjnnnkbaaGreatMDeltaCodes2
import Derived.Laws.Externs
import Derived.Lib.Bytealg
import Derived.Laws.RangeAny
import Derived.Laws.RangeString
set_option linter.unusedSimpArgs false
set_option linter.unusedVariables false
set_option maxRecDepth 10000
namespace Go.Proofs.YtpkcbdhjnnnkbaaGreat.Abs
open Go
theorem fn58:FnOk Tryz.prog 58 24 [2] (bodyOf Tryz.f58):=⟨Tryz.f58,Tryz.func58,by kernel_rfl,by decide,by kernel_rfl,by kernel_rfl⟩
theorem s58 (ns:List Str):PSpec Tryz.prog 58 [.d (.sl 1 (ns.map .str))] (.d (.bool (pathV ns))):=by
 refine PSpec.bd fun hbd=>?_;have hx:ns.length≤9223372036854775807:=by simpa using hbd.1.1
 refine PSpec.of fn58 (by simp) fun o nk=>?_;refine wr (ua (u_nil (WP.seq fun K2 hK2=>?_)));refine wr (ua (u_nil (WP.block ?_)));refine WP.loopL (ι:=Nat) (fun i=>⟨al [(0,.d (.sl 1 (ns.map .str))),(3,.d (.int .i64 i))],o,nk⟩) (fun i=>i≤ns.length∧(ns.take i).all nameV=true) (fun i=>ns.length - i) (fun i hA=>?_) 0 ?_ ?_
 ·
  obtain ⟨hle_i,hin_i⟩:=hA;refine WP.seq fun K4 hK4=>?_;refine wr ?_;refine um ?_;refine um ?_;refine un th22 ?_;refine ub ?_;refine u_nil ?_;refine wc (fun hc6=>?_) (fun hc6=>?_) <;> try simp only [Q0,Q1,Q2,Q3,Q4,Q5,Q6,Q7,Q8,ge_iff_le,gt_iff_lt] at hc6
  ·
   refine WP.skip (hK4 _ (WP.seq fun K7 hK7=>?_));refine WP.block (wr (um (um ?_)))
   refine u_step (o_ia_map rfl rfl th22 rfl th9 rfl (by omega) ?_)
   refine uL th9 ?_;refine u_step (o_pcall (s113 _) rfl ?_);refine uN ?_;refine u_nil ?_;refine wc (fun hc9=>?_) (fun hc9=>?_) <;> try simp only [Q0,Q1,Q2,Q3,Q4,Q5,Q6,Q7,Q8,ge_iff_le,gt_iff_lt] at hc9
   ·
    refine wr (ua (u_nil (WP.ret ?_)));refine ret_ok rfl ?_ (by omega) (fun _ _=>rfl);have h1:=all_false (p:=nameV) (by omega:i < ns.length) hc9;simp [pathV,h1]
   ·
    refine WP.skip (hK7 _ (WP.reg tabOk rfl ?_));refine um (ub (ua (u_nil ?_)));refine ⟨i+1,⟨by omega,?_⟩,by omega,?_⟩
    ·rw [all_snoc (by omega),hin_i,hc9];rfl
    ·refine Le.al ?_;simp only [List.forall_mem_cons];exact ⟨rfl,cnt (by omega),by simp⟩
  ·
   refine WP.exit ?_;refine hK2 _ (wr (um (un th22 ?_)));refine ub (um ?_);apply gT
   ·rfl
   ·intro hg;exact pm
   apply gT
   ·rfl
   ·intro hg;try simp only [hg,ct,Bt]
    exact pn th22
   apply gT
   ·rfl
   ·intro hg;try simp only [hg,ct,Bt]
    exact pb
   refine uA (ua (u_nil (WP.ret ?_)));refine ret_ok rfl ?_ (by omega) (fun _ _=>rfl);have h1:=all_true hc6 hin_i;refine congrArg D.bool ?_;rw [Bool.eq_iff_iff];simp [pathV,h1];omega
 ·
  simp
 ·
  refine Le.al ?_;simp only [List.forall_mem_cons];exact ⟨rfl,rfl,by simp⟩
theorem fn134:FnOk Tryz.prog 134 25 [2] (bodyOf Tryz.f134):=⟨Tryz.f134,Tryz.func134,by kernel_rfl,by decide,by kernel_rfl,by kernel_rfl⟩
theorem s134 (ns:List Str):PSpec Tryz.prog 134 [.d (.sl 1 (ns.map .str))] (.d (.bool (twiceV ns))):=by
 refine PSpec.bd fun hbd=>?_;have hx:ns.length≤9223372036854775807:=by simpa using hbd.1.1
 refine PSpec.of fn134 (by simp) fun o nk=>?_;refine wr (ua (u_nil (WP.seq fun K2 hK2=>?_)));refine wr (ua (u_nil (WP.block ?_)));refine WP.loopL (ι:=Nat) (fun i=>⟨al [(0,.d (.sl 1 (ns.map .str))),(3,.d (.int .i64 i))],o,nk⟩) (fun i=>i≤ns.length∧∀ (a b:Nat) (ha:a < ns.length) (hb:b < ns.length),a < b→b < i→ns[a]≠ns[b]) (fun i=>ns.length - i) (fun i hA=>?_) 0 ?_ ?_
 ·
  obtain ⟨hle_i,hin_i⟩:=hA;refine WP.seq fun K4 hK4=>?_;refine wr ?_;refine um ?_;refine um ?_;refine un th22 ?_;refine ub ?_;refine u_nil ?_;refine wc (fun hc6=>?_) (fun hc6=>?_) <;> try simp only [Q0,Q1,Q2,Q3,Q4,Q5,Q6,Q7,Q8,ge_iff_le,gt_iff_lt] at hc6
  ·
   refine WP.skip (hK4 _ (WP.seq fun K7 hK7=>?_));refine WP.block (wr (ua (u_nil (WP.block ?_))));refine WP.loopL (ι:=Nat) (fun j=>⟨al [(0,.d (.sl 1 (ns.map .str))),(3,.d (.int .i64 i)),(4,.d (.int .i64 j))],o,nk⟩) (fun j=>j≤i∧∀ (a:Nat) (ha:a < ns.length),a < j→ns[i]≠ns[a]) (fun j=>i - j) (fun j hA=>?_) 0 ?_ ?_
   ·
    obtain ⟨hle_j,hin_j⟩:=hA;refine WP.seq fun K9 hK9=>?_;refine wr ?_;refine um ?_;refine um ?_;refine ub ?_;refine u_nil ?_;refine wc (fun hc11=>?_) (fun hc11=>?_) <;> try simp only [Q0,Q1,Q2,Q3,Q4,Q5,Q6,Q7,Q8,ge_iff_le,gt_iff_lt] at hc11
    ·
     refine WP.skip (hK9 _ (WP.seq fun K12 hK12=>?_));refine WP.block (wd ?_);refine dm ?_;refine dm ?_
     refine d_step (o_ia_map rfl rfl th22 rfl th9 rfl (by omega) ⟨rfl,rfl,rfl⟩) ?_
     refine dL th9 ?_;refine dm ?_;refine dm ?_
     refine d_step (o_ia_map rfl rfl th22 rfl th9 rfl (by omega) ⟨rfl,rfl,rfl⟩) ?_
     refine dL th9 ?_;refine ds ?_;refine d_nil ?_;refine wc (fun hc14=>?_) (fun hc14=>?_) <;> try simp only [Q0,Q1,Q2,Q3,Q4,Q5,Q6,Q7,Q8,ge_iff_le,gt_iff_lt] at hc14
     ·
      refine wr (ua (u_nil (WP.ret ?_)));refine ret_ok rfl ?_ (by omega) (fun _ _=>rfl);rw [twice_true (by omega) hc11 hc14]
     ·
      refine WP.skip (hK12 _ (WP.reg tabOk rfl ?_));refine um (ub (ua (u_nil ?_)));refine ⟨j+1,⟨by omega,?_⟩,by omega,?_⟩
      ·intro a ha h1;by_cases haj:a=j
       ·subst haj;exact hc14
       ·exact hin_j a ha (by omega)
      ·refine Le.al ?_;simp only [List.forall_mem_cons];exact ⟨rfl,rfl,cnt (by omega),by simp⟩
    ·
     refine WP.exit ?_;refine hK7 _ (WP.reg tabOk rfl ?_);refine um (ub (ua (u_nil ?_)));refine ⟨i+1,⟨by omega,?_⟩,by omega,?_⟩
     ·intro a b ha hb h1 h2;by_cases hbi:b=i
      ·subst hbi;exact fun e=>hin_j a ha (by omega) e.symm
      ·exact hin_i a b ha hb h1 (by omega)
     ·refine Le.al ?_;simp only [List.forall_mem_cons];exact ⟨rfl,cnt (by omega),by simp⟩
   ·
    simp
   ·
    refine Le.al ?_;simp only [List.forall_mem_cons];exact ⟨rfl,rfl,rfl,by simp⟩
  ·
   refine WP.exit ?_;refine hK2 _ (wr (ua (u_nil (WP.ret ?_))));refine ret_ok rfl ?_ (by omega) (fun _ _=>rfl);rw [twice_false fun a b ha hb h1=>hin_i a b ha hb h1 (by omega)]
 ·
  simp
 ·
  refine Le.al ?_;simp only [List.forall_mem_cons];exact ⟨rfl,rfl,by simp⟩
theorem fn80:FnOk Tryz.prog 80 146 [2] (bodyOf Tryz.f80):=⟨Tryz.f80,Tryz.func80,by kernel_rfl,by decide,by kernel_rfl,by kernel_rfl⟩
theorem s80A (m:Nat):∀ v:Val,SizeOf.sizeOf v < m→PSpec Tryz.prog 80 [.d (encV v)] (.d (.bool (mayV v))):=by
 induction m with
 | zero=>intros;omega
 | succ m ih=>
  rintro ⟨kd,it,tx,xs,ns⟩ hv;refine PSpec.bd fun hbd=>?_;have hx:xs.length≤9223372036854775807:=by simpa [encVs_length] using hbd.1.2.2.2.1.1
  have hx2:ns.length≤9223372036854775807:=by simpa using hbd.1.2.2.2.2.1.1
  refine PSpec.of fn80 (by simp) fun o nk=>?_;refine wr ?_;refine u_step (g_box rfl fun o2 hb2 hk2=>?_);refine ua (u_nil (WP.seq fun K3 hK3=>?_));refine wr (ua (u_nil (WP.block ?_)));refine WP.loopL (ι:=Nat) (fun i=>⟨al [(1,.loc nk 0),(3,.d (.int .i64 i))],o2,(nk+1)⟩) (fun i=>i≤xs.length∧(xs.take i).all mayV=true) (fun i=>xs.length - i) (fun i hA=>?_) 0 ?_ ?_
  ·
   obtain ⟨hle_i,hin_i⟩:=hA;refine WP.seq fun K5 hK5=>?_;refine wr ?_;refine um ?_;refine uf th27 th25 hb2 ?_;refine ul th25 hb2 ?_;refine un th25 ?_;refine ub ?_;refine u_nil ?_;refine wc (fun hc7=>?_) (fun hc7=>?_) <;> try simp only [Q0,Q1,Q2,Q3,Q4,Q5,Q6,Q7,Q8,ge_iff_le,gt_iff_lt] at hc7
   ·
    refine WP.skip (hK5 _ (WP.seq fun K8 hK8=>?_));refine WP.block (wr (uf th27 th25 hb2 ?_));refine ul th25 hb2 ?_;refine um ?_
    first | refine u_step (o_ia_map rfl rfl th25 rfl th27 rfl (by omega) ?_) | refine u_step (o_ia_vs rfl rfl th25 rfl th27 rfl (by omega) ?_)
    refine uL th27 ?_;refine u_step (o_pcall (ih _ (by exact items_lt' (by omega) hv)) rfl ?_);refine uN ?_;refine u_nil ?_;refine wc (fun hc10=>?_) (fun hc10=>?_) <;> try simp only [Q0,Q1,Q2,Q3,Q4,Q5,Q6,Q7,Q8,ge_iff_le,gt_iff_lt] at hc10
    ·
     refine wr (ua (u_nil (WP.ret ?_)));refine ret_ok rfl ?_ (by omega) (fun t ht=>(hk2 t (by omega)));have h1:=all_false (p:=mayV) (by omega:i < xs.length) hc10;simp [mayV,maysV_all,h1]
    ·
     refine WP.skip (hK8 _ (WP.reg tabOk rfl ?_));refine um (ub (ua (u_nil ?_)));refine ⟨i+1,⟨by omega,?_⟩,by omega,?_⟩
     ·rw [all_snoc (by omega),hin_i];simp_all
     ·refine Le.al ?_;simp only [List.forall_mem_cons];exact ⟨rfl,cnt (by omega),by simp⟩
   ·
    refine WP.exit ?_;refine hK3 _ (WP.seq fun K12 hK12=>?_);refine wr (ua (u_nil (WP.block ?_)));refine WP.loopL (ι:=Nat) (fun j=>⟨al [(1,.loc nk 0),(4,.d (.int .i64 j))],o2,(nk+1)⟩) (fun j=>j≤ns.length∧(ns.take j).all nameV=true) (fun j=>ns.length - j) (fun j hA=>?_) 0 ?_ ?_
    ·
     obtain ⟨hle_j,hin_j⟩:=hA;refine WP.seq fun K14 hK14=>?_;refine wr ?_;refine um ?_;refine uf th27 th22 hb2 ?_;refine ul th22 hb2 ?_;refine un th22 ?_;refine ub ?_;refine u_nil ?_;refine wc (fun hc16=>?_) (fun hc16=>?_) <;> try simp only [Q0,Q1,Q2,Q3,Q4,Q5,Q6,Q7,Q8,ge_iff_le,gt_iff_lt] at hc16
     ·
      refine WP.skip (hK14 _ (WP.seq fun K17 hK17=>?_));refine WP.block (wr (uf th27 th22 hb2 ?_));refine ul th22 hb2 ?_;refine um ?_
      refine u_step (o_ia_map rfl rfl th22 rfl th9 rfl (by omega) ?_)
      refine uL th9 ?_;refine u_step (o_pcall (s113 _) rfl ?_);refine uN ?_;refine u_nil ?_;refine wc (fun hc19=>?_) (fun hc19=>?_) <;> try simp only [Q0,Q1,Q2,Q3,Q4,Q5,Q6,Q7,Q8,ge_iff_le,gt_iff_lt] at hc19
      ·
       refine wr (ua (u_nil (WP.ret ?_)));refine ret_ok rfl ?_ (by omega) (fun t ht=>(hk2 t (by omega)));have h1:=all_false (p:=nameV) (by omega:j < ns.length) hc19;simp [mayV,h1]
      ·
       refine WP.skip (hK17 _ (WP.reg tabOk rfl ?_));refine um (ub (ua (u_nil ?_)));refine ⟨j+1,⟨by omega,?_⟩,by omega,?_⟩
       ·rw [all_snoc (by omega),hin_j];simp_all
       ·refine Le.al ?_;simp only [List.forall_mem_cons];exact ⟨rfl,cnt (by omega),by simp⟩
     ·
      refine WP.exit ?_;refine hK12 _ ?_;refine wd ?_;refine df th27 th25 hb2 ?_;refine dl th25 hb2 ?_;refine dn th25 ?_;refine df th27 th22 hb2 ?_;refine dl th22 hb2 ?_;refine dn th22 ?_;refine da ?_;refine da ?_;refine d_nil ?_;refine WP.seq fun K22 hK22=>?_;refine wr ?_;refine uf th27 th3 hb2 ?_;refine ul th3 hb2 ?_;refine u_nil ?_;refine WP.block ?_;refine wr ?_;refine ub ?_;refine ua ?_;refine u_nil ?_;refine wc (fun hc25=>?_) (fun hc25=>?_) <;> try simp only [Q0,Q1,Q2,Q3,Q4,Q5,Q6,Q7,Q8,ge_iff_le,gt_iff_lt] at hc25
      ·
       refine wr (uf th27 th3 hb2 ?_);refine ul th3 hb2 ?_;refine ub (um ?_);apply gT
       ·rfl
       ·intro hg;exact pf th27 th9 hb2
       apply gT
       ·rfl
       ·intro hg;try simp only [hg,ct,Bt]
        exact pl th9 hb2
       apply gT
       ·rfl
       ·intro hg;try simp only [hg,ct,Bt]
        refine o_bin_str rfl (show _=SV.d (.str []) from rfl) rfl ⟨rfl,rfl,rfl⟩
       refine uA (um ?_);apply gT
       ·rfl
       ·intro hg;exact pm
       apply gT
       ·rfl
       ·intro hg;try simp only [hg,ct,Bt]
        exact pb
       refine uA (um ?_);apply gT
       ·rfl
       ·intro hg;exact pm
       apply gT
       ·rfl
       ·intro hg;try simp only [hg,ct,Bt]
        exact pb
       refine uA (ua (u_nil (WP.ret ?_)));refine ret_ok rfl ?_ (by omega) (fun t ht=>(hk2 t (by omega)));have h1:=all_true (by omega) hin_i;have h2:=all_true (by omega) hin_j;refine congrArg D.bool ?_;have e1:=encVs_length xs
       try simp only [beq_iff_eq,beq_eq_false_iff_ne] at hc7 hc16 hc25
       rw [Bool.eq_iff_iff];simp [mayV,maysV_all,h1,h2,kindOk,e1,hc7,hc16,hc25]
       try omega
      ·
       refine wr ?_;refine ub ?_;refine ua ?_;refine u_nil ?_;refine wc (fun hc28=>?_) (fun hc28=>?_) <;> try simp only [Q0,Q1,Q2,Q3,Q4,Q5,Q6,Q7,Q8,ge_iff_le,gt_iff_lt] at hc28
       ·
        refine wr (uf th27 th3 hb2 ?_);refine ul th3 hb2 ?_;refine ub (um ?_);apply gT
        ·rfl
        ·intro hg;exact pf th27 th3 hb2
        apply gT
        ·rfl
        ·intro hg;try simp only [hg,ct,Bt]
         exact pl th3 hb2
        apply gT
        ·rfl
        ·intro hg;try simp only [hg,ct,Bt]
         exact pb
        refine uA (um ?_);apply gT
        ·rfl
        ·intro hg;exact pf th27 th9 hb2
        apply gT
        ·rfl
        ·intro hg;try simp only [hg,ct,Bt]
         exact pl th9 hb2
        apply gT
        ·rfl
        ·intro hg;try simp only [hg,ct,Bt]
         refine o_bin_str rfl (show _=SV.d (.str []) from rfl) rfl ⟨rfl,rfl,rfl⟩
        refine uA (um ?_);apply gT
        ·rfl
        ·intro hg;exact pm
        apply gT
        ·rfl
        ·intro hg;try simp only [hg,ct,Bt]
         exact pb
        refine uA (um ?_);apply gT
        ·rfl
        ·intro hg;exact pm
        apply gT
        ·rfl
        ·intro hg;try simp only [hg,ct,Bt]
         exact pb
        refine uA (ua (u_nil (WP.ret ?_)));refine ret_ok rfl ?_ (by omega) (fun t ht=>(hk2 t (by omega)));have h1:=all_true (by omega) hin_i;have h2:=all_true (by omega) hin_j;refine congrArg D.bool ?_;have e1:=encVs_length xs
        try simp only [beq_iff_eq,beq_eq_false_iff_ne] at hc7 hc16 hc25 hc28
        rw [Bool.eq_iff_iff];simp [mayV,maysV_all,h1,h2,kindOk,e1,hc7,hc16,hc25,hc28]
        try omega
       ·
        refine wr ?_;refine ub ?_;refine ua ?_;refine u_nil ?_;refine wc (fun hc31=>?_) (fun hc31=>?_) <;> try simp only [Q0,Q1,Q2,Q3,Q4,Q5,Q6,Q7,Q8,ge_iff_le,gt_iff_lt] at hc31
        ·
         refine wr (uf th27 th9 hb2 ?_);refine ul th9 hb2 ?_;refine u_step (o_bin_str rfl (show _=SV.d (.str []) from rfl) rfl ?_);refine um ?_;apply gT
         ·rfl
         ·intro hg;exact pm
         apply gT
         ·rfl
         ·intro hg;try simp only [hg,ct,Bt]
          exact pb
         refine uA (um ?_);apply gT
         ·rfl
         ·intro hg;exact pm
         apply gT
         ·rfl
         ·intro hg;try simp only [hg,ct,Bt]
          exact pb
         refine uA (ua (u_nil (WP.ret ?_)));refine ret_ok rfl ?_ (by omega) (fun t ht=>(hk2 t (by omega)));have h1:=all_true (by omega) hin_i;have h2:=all_true (by omega) hin_j;refine congrArg D.bool ?_;have e1:=encVs_length xs
         try simp only [beq_iff_eq,beq_eq_false_iff_ne] at hc7 hc16 hc25 hc28 hc31
         rw [Bool.eq_iff_iff];simp [mayV,maysV_all,h1,h2,kindOk,e1,hc7,hc16,hc25,hc28,hc31]
         try omega
        ·
         refine WP.seq fun K33 hK33=>?_;refine wr ?_;refine ub ?_;refine ua ?_;refine u_nil ?_;refine wc (fun hc35=>?_) (fun hc35=>?_) <;> try simp only [Q0,Q1,Q2,Q3,Q4,Q5,Q6,Q7,Q8,ge_iff_le,gt_iff_lt] at hc35
         ·
          refine WP.skip ?_;refine hK33 _ ?_;refine wc (fun hc36=>?_) (fun hc36=>?_) <;> try simp only [Q0,Q1,Q2,Q3,Q4,Q5,Q6,Q7,Q8,ge_iff_le,gt_iff_lt] at hc36
          ·
           refine wr (uf th27 th3 hb2 ?_);refine ul th3 hb2 ?_;refine ub (um ?_);apply gT
           ·rfl
           ·intro hg;exact pm
           apply gT
           ·rfl
           ·intro hg;try simp only [hg,ct,Bt]
            exact pb
           refine uA (um ?_);apply gT
           ·rfl
           ·intro hg;exact pm
           apply gT
           ·rfl
           ·intro hg;try simp only [hg,ct,Bt]
            exact pb
           refine uA (ua (u_nil (WP.ret ?_)));refine ret_ok rfl ?_ (by omega) (fun t ht=>(hk2 t (by omega)));have h1:=all_true (by omega) hin_i;have h2:=all_true (by omega) hin_j;refine congrArg D.bool ?_;have e1:=encVs_length xs
           try simp only [beq_iff_eq,beq_eq_false_iff_ne] at hc7 hc16 hc25 hc28 hc31 hc35 hc36
           rw [Bool.eq_iff_iff];simp [mayV,maysV_all,h1,h2,kindOk,e1,hc7,hc16,hc25,hc28,hc31,hc35,hc36]
           try omega
          ·
           refine wr ?_;refine ub ?_;refine ua ?_;refine u_nil ?_;refine wc (fun hc39=>?_) (fun hc39=>?_) <;> try simp only [Q0,Q1,Q2,Q3,Q4,Q5,Q6,Q7,Q8,ge_iff_le,gt_iff_lt] at hc39
           ·
            refine wr (uf th27 th3 hb2 ?_);refine ul th3 hb2 ?_;refine ub (um ?_);apply gT
            ·rfl
            ·intro hg;exact pf th27 th9 hb2
            apply gT
            ·rfl
            ·intro hg;try simp only [hg,ct,Bt]
             exact pl th9 hb2
            apply gT
            ·rfl
            ·intro hg;try simp only [hg,ct,Bt]
             refine o_bin_str rfl (show _=SV.d (.str []) from rfl) rfl ⟨rfl,rfl,rfl⟩
            refine uA (um ?_);apply gT
            ·rfl
            ·intro hg;exact pm
            apply gT
            ·rfl
            ·intro hg;try simp only [hg,ct,Bt]
             exact pb
            refine uA (ua (u_nil (WP.ret ?_)));refine ret_ok rfl ?_ (by omega) (fun t ht=>(hk2 t (by omega)));have h1:=all_true (by omega) hin_i;have h2:=all_true (by omega) hin_j;refine congrArg D.bool ?_;have e1:=encVs_length xs
            try simp only [beq_iff_eq,beq_eq_false_iff_ne] at hc7 hc16 hc25 hc28 hc31 hc35 hc36 hc39
            rw [Bool.eq_iff_iff];simp [mayV,maysV_all,h1,h2,kindOk,e1,hc7,hc16,hc25,hc28,hc31,hc35,hc36,hc39]
            try omega
           ·
            refine wr ?_;refine ub ?_;refine ua ?_;refine u_nil ?_;refine wc (fun hc42=>?_) (fun hc42=>?_) <;> try simp only [Q0,Q1,Q2,Q3,Q4,Q5,Q6,Q7,Q8,ge_iff_le,gt_iff_lt] at hc42
            ·
             refine wr (uf th27 th3 hb2 ?_);refine ul th3 hb2 ?_;refine ub (um ?_);apply gT
             ·rfl
             ·intro hg;exact pf th27 th9 hb2
             apply gT
             ·rfl
             ·intro hg;try simp only [hg,ct,Bt]
              exact pl th9 hb2
             apply gT
             ·rfl
             ·intro hg;try simp only [hg,ct,Bt]
              refine o_bin_str rfl (show _=SV.d (.str []) from rfl) rfl ⟨rfl,rfl,rfl⟩
             refine uA (um ?_);apply gT
             ·rfl
             ·intro hg;exact pm
             apply gT
             ·rfl
             ·intro hg;exact pm
             apply gT
             ·rfl
             ·intro hg;try simp only [hg,ct,Bt]
              exact pb
             refine uA (um ?_);apply gT
             ·rfl
             ·intro hg;exact pf th27 th22 hb2
             apply gT
             ·rfl
             ·intro hg;try simp only [hg,ct,Bt]
              exact pl th22 hb2
             apply gT
             ·rfl
             ·intro hg;try simp only [hg,ct,Bt]
              refine o_pcall (s134 _) rfl ⟨rfl,rfl,rfl⟩
             apply gT
             ·rfl
             ·intro hg;try simp only [hg,ct,Bt]
              exact pN
             refine uA (ua (u_nil (WP.ret ?_)));refine ret_ok rfl ?_ (by omega) (fun t ht=>(hk2 t (by omega)));have h1:=all_true (by omega) hin_i;have h2:=all_true (by omega) hin_j;refine congrArg D.bool ?_;have e1:=encVs_length xs
             try simp only [beq_iff_eq,beq_eq_false_iff_ne] at hc7 hc16 hc25 hc28 hc31 hc35 hc36 hc39 hc42
             rw [Bool.eq_iff_iff];simp [mayV,maysV_all,h1,h2,kindOk,e1,hc7,hc16,hc25,hc28,hc31,hc35,hc36,hc39,hc42]
             try omega
            ·
             refine WP.skip (hK22 _ (wr (ua (u_nil (WP.ret ?_)))));refine ret_ok rfl ?_ (by omega) (fun t ht=>(hk2 t (by omega)));have h1:=all_true (by omega) hin_i;have h2:=all_true (by omega) hin_j;refine congrArg D.bool ?_;have e1:=encVs_length xs
             try simp only [beq_iff_eq,beq_eq_false_iff_ne] at hc7 hc16 hc25 hc28 hc31 hc35 hc36 hc39 hc42
             rw [Bool.eq_iff_iff];simp [mayV,maysV_all,h1,h2,kindOk,e1,hc7,hc16,hc25,hc28,hc31,hc35,hc36,hc39,hc42]
             try omega
         ·
          refine WP.reg tabOk rfl ?_;refine ub ?_;refine ua ?_;refine u_nil ?_;refine hK33 _ ?_;refine wc (fun hc45=>?_) (fun hc45=>?_) <;> try simp only [Q0,Q1,Q2,Q3,Q4,Q5,Q6,Q7,Q8,ge_iff_le,gt_iff_lt] at hc45
          ·
           refine wr (uf th27 th3 hb2 ?_);refine ul th3 hb2 ?_;refine ub (um ?_);apply gT
           ·rfl
           ·intro hg;exact pm
           apply gT
           ·rfl
           ·intro hg;try simp only [hg,ct,Bt]
            exact pb
           refine uA (um ?_);apply gT
           ·rfl
           ·intro hg;exact pm
           apply gT
           ·rfl
           ·intro hg;try simp only [hg,ct,Bt]
            exact pb
           refine uA (ua (u_nil (WP.ret ?_)));refine ret_ok rfl ?_ (by omega) (fun t ht=>(hk2 t (by omega)));have h1:=all_true (by omega) hin_i;have h2:=all_true (by omega) hin_j;refine congrArg D.bool ?_;have e1:=encVs_length xs
           try simp only [beq_iff_eq,beq_eq_false_iff_ne] at hc7 hc16 hc25 hc28 hc31 hc35 hc45
           rw [Bool.eq_iff_iff];simp [mayV,maysV_all,h1,h2,kindOk,e1,hc7,hc16,hc25,hc28,hc31,hc35,hc45]
           try omega
          ·
           refine wr ?_;refine ub ?_;refine ua ?_;refine u_nil ?_;refine wc (fun hc48=>?_) (fun hc48=>?_) <;> try simp only [Q0,Q1,Q2,Q3,Q4,Q5,Q6,Q7,Q8,ge_iff_le,gt_iff_lt] at hc48
           ·
            refine wr (uf th27 th3 hb2 ?_);refine ul th3 hb2 ?_;refine ub (um ?_);apply gT
            ·rfl
            ·intro hg;exact pf th27 th9 hb2
            apply gT
            ·rfl
            ·intro hg;try simp only [hg,ct,Bt]
             exact pl th9 hb2
            apply gT
            ·rfl
            ·intro hg;try simp only [hg,ct,Bt]
             refine o_bin_str rfl (show _=SV.d (.str []) from rfl) rfl ⟨rfl,rfl,rfl⟩
            refine uA (um ?_);apply gT
            ·rfl
            ·intro hg;exact pm
            apply gT
            ·rfl
            ·intro hg;try simp only [hg,ct,Bt]
             exact pb
            refine uA (ua (u_nil (WP.ret ?_)));refine ret_ok rfl ?_ (by omega) (fun t ht=>(hk2 t (by omega)));have h1:=all_true (by omega) hin_i;have h2:=all_true (by omega) hin_j;refine congrArg D.bool ?_;have e1:=encVs_length xs
            try simp only [beq_iff_eq,beq_eq_false_iff_ne] at hc7 hc16 hc25 hc28 hc31 hc35 hc45 hc48
            rw [Bool.eq_iff_iff];simp [mayV,maysV_all,h1,h2,kindOk,e1,hc7,hc16,hc25,hc28,hc31,hc35,hc45,hc48]
            try omega
           ·
            refine wr ?_;refine ub ?_;refine ua ?_;refine u_nil ?_;refine wc (fun hc51=>?_) (fun hc51=>?_) <;> try simp only [Q0,Q1,Q2,Q3,Q4,Q5,Q6,Q7,Q8,ge_iff_le,gt_iff_lt] at hc51
            ·
             refine wr (uf th27 th3 hb2 ?_);refine ul th3 hb2 ?_;refine ub (um ?_);apply gT
             ·rfl
             ·intro hg;exact pf th27 th9 hb2
             apply gT
             ·rfl
             ·intro hg;try simp only [hg,ct,Bt]
              exact pl th9 hb2
             apply gT
             ·rfl
             ·intro hg;try simp only [hg,ct,Bt]
              refine o_bin_str rfl (show _=SV.d (.str []) from rfl) rfl ⟨rfl,rfl,rfl⟩
             refine uA (um ?_);apply gT
             ·rfl
             ·intro hg;exact pm
             apply gT
             ·rfl
             ·intro hg;exact pm
             apply gT
             ·rfl
             ·intro hg;try simp only [hg,ct,Bt]
              exact pb
             refine uA (um ?_);apply gT
             ·rfl
             ·intro hg;exact pf th27 th22 hb2
             apply gT
             ·rfl
             ·intro hg;try simp only [hg,ct,Bt]
              exact pl th22 hb2
             apply gT
             ·rfl
             ·intro hg;try simp only [hg,ct,Bt]
              refine o_pcall (s134 _) rfl ⟨rfl,rfl,rfl⟩
             apply gT
             ·rfl
             ·intro hg;try simp only [hg,ct,Bt]
              exact pN
             refine uA (ua (u_nil (WP.ret ?_)));refine ret_ok rfl ?_ (by omega) (fun t ht=>(hk2 t (by omega)));have h1:=all_true (by omega) hin_i;have h2:=all_true (by omega) hin_j;refine congrArg D.bool ?_;have e1:=encVs_length xs
             try simp only [beq_iff_eq,beq_eq_false_iff_ne] at hc7 hc16 hc25 hc28 hc31 hc35 hc45 hc48 hc51
             rw [Bool.eq_iff_iff];simp [mayV,maysV_all,h1,h2,kindOk,e1,hc7,hc16,hc25,hc28,hc31,hc35,hc45,hc48,hc51]
             try omega
            ·
             refine WP.skip (hK22 _ (wr (ua (u_nil (WP.ret ?_)))));refine ret_ok rfl ?_ (by omega) (fun t ht=>(hk2 t (by omega)));have h1:=all_true (by omega) hin_i;have h2:=all_true (by omega) hin_j;refine congrArg D.bool ?_;have e1:=encVs_length xs
             try simp only [beq_iff_eq,beq_eq_false_iff_ne] at hc7 hc16 hc25 hc28 hc31 hc35 hc45 hc48 hc51
             rw [Bool.eq_iff_iff];simp [mayV,maysV_all,h1,h2,kindOk,e1,hc7,hc16,hc25,hc28,hc31,hc35,hc45,hc48,hc51]
             try omega
    ·
     simp
    ·
     refine Le.al ?_;simp only [List.forall_mem_cons];exact ⟨rfl,rfl,by simp⟩
  ·
   simp
  ·
   refine Le.al ?_;simp only [List.forall_mem_cons];exact ⟨rfl,rfl,by simp⟩
theorem s80 (v:Val):PSpec Tryz.prog 80 [.d (encV v)] (.d (.bool (mayV v))):=s80A _ v (Nat.lt_succ_self _)
theorem fn154:FnOk Tryz.prog 154 19 [4] (bodyOf Tryz.f154):=⟨Tryz.f154,Tryz.func154,by kernel_rfl,by decide,by kernel_rfl,by kernel_rfl⟩
theorem s154 {o:Nat→Option AO} {nk:Nat} (xs:List Str) (g:FuncId) (fs cs:List SV) (p:Str→Bool) (hclo:∀ x∈xs,Spec Tryz.prog g (fs++[.d (D.str x)]++cs) o nk fun r' o' nk'=>r'=.d (.bool (p x))∧o'=o∧nk'=nk):Spec Tryz.prog 154 [.d (.sl 1 (xs.map .str)),.clo g fs cs] o nk (fun r' o' nk'=>r'=.d (.int .i64 (firstI p xs))∧o'=o∧nk'=nk):=by
 refine Spec.bd fun hbd=>?_;have hx:xs.length≤9223372036854775807:=by simpa [encVs_length] using hbd.1.1
 refine Spec.pure (fun _=>trivial) rfl (Spec.of_body fn154 (by simp) ?_);refine wr (ua (u_nil (WP.seq fun K2 hK2=>?_)));refine wr (um (un th22 ?_));refine um (u_nil (WP.block ?_));refine WP.loopL (ι:=Nat) (fun i=>⟨al [(0,.d (.sl 1 (xs.map .str))),(1,.clo g fs cs),(7,.d (.int .i64 (xs.map D.str).length)),(8,.d (.int .i64 i))],o,nk⟩) (fun i=>i≤xs.length∧∀ (j:Nat) (hj:j < xs.length),j < i→p xs[j]=false) (fun i=>xs.length - i) (fun i hA=>?_) 0 ?_ ?_
 ·
  obtain ⟨hle_i,hin_i⟩:=hA;refine wr ?_;refine ub ?_;refine u_nil ?_;refine WP.seq fun K5 hK5=>?_;refine wc (fun hc6=>?_) (fun hc6=>?_) <;> try simp only [Q0,Q1,Q2,Q3,Q4,Q5,Q6,Q7,Q8,ge_iff_le,gt_iff_lt] at hc6
  ·
   refine WP.skip (hK5 _ (WP.seq fun K7 hK7=>?_));refine WP.block (wr (um (ua (u_nil (wr ?_)))));refine u_step (o_moveV (v:=.clo _ _ _) rfl ?_);refine um (um ?_)
   refine u_step (o_ia_map rfl rfl th22 rfl th9 rfl (by omega) ?_)
   refine uL th9 ?_;refine u_step (o_sclo rfl (hclo _ (List.getElem_mem (by omega))) rfl ?_);refine u_nil ?_;refine wc (fun hc10=>?_) (fun hc10=>?_) <;> try simp only [Q0,Q1,Q2,Q3,Q4,Q5,Q6,Q7,Q8,ge_iff_le,gt_iff_lt] at hc10
   ·
    refine wr (um (ua (u_nil (WP.ret ?_))));refine ret_ok rfl ?_ (by omega) (fun _ _=>rfl);rw [firstI_at (by omega) hc10 hin_i]
   ·
    refine WP.skip (hK7 _ (WP.reg tabOk rfl ?_));refine ub (um (u_nil ?_));refine ⟨i+1,⟨by omega,?_⟩,by omega,?_⟩
    ·intro j hj h1;by_cases h2:j=i
     ·subst h2;exact hc10
     ·exact hin_i j hj (by omega)
    ·refine Le.al ?_;simp only [List.forall_mem_cons];exact ⟨rfl,rfl,rfl,cnt (by omega),by simp⟩
  ·
   refine WP.exit ?_;refine hK2 _ (wr (ua (u_nil (WP.ret ?_))));refine ret_ok rfl ?_ (by omega) (fun _ _=>rfl);rw [firstI_none fun j hj=>hin_i j hj (by omega)]
 ·
  simp
 ·
  refine Le.al ?_;simp only [List.forall_mem_cons];exact ⟨rfl,rfl,rfl,rfl,by simp⟩
theorem fn112:FnOk Tryz.prog 112 9 [4] (bodyOf Tryz.f112):=⟨Tryz.f112,Tryz.func112,by kernel_rfl,by decide,by kernel_rfl,by kernel_rfl⟩
theorem s112 {o:Nat→Option AO} {nk:Nat} (xs:List Str) (g:FuncId) (fs cs:List SV) (p:Str→Bool) (hclo:∀ x∈xs,Spec Tryz.prog g (fs++[.d (D.str x)]++cs) o nk fun r' o' nk'=>r'=.d (.bool (p x))∧o'=o∧nk'=nk):Spec Tryz.prog 112 [.d (.sl 1 (xs.map .str)),.clo g fs cs] o nk (fun r' o' nk'=>r'=.d (.bool (xs.any p))∧o'=o∧nk'=nk):=by
 refine Spec.pure (fun _=>trivial) rfl (Spec.of_body fn112 (by simp) ?_);refine wr (ua (u_nil (wr (um ?_))));refine u_step (o_moveV (v:=.clo _ _ _) rfl ?_);refine u_step (o_scall (s154 _ _ _ _ _ hclo) rfl ?_);refine ub (ua (u_nil (WP.ret ?_)));refine ret_ok rfl ?_ (by omega) (fun _ _=>rfl);rw [← firstI_nn]
theorem fn163:FnOk Tryz.prog 163 19 [4] (bodyOf Tryz.f163):=⟨Tryz.f163,Tryz.func163,by kernel_rfl,by decide,by kernel_rfl,by kernel_rfl⟩
theorem s163 {o:Nat→Option AO} {nk:Nat} (xs:List Val) (g:FuncId) (fs cs:List SV) (p:Val→Bool) (hclo:∀ x∈xs,Spec Tryz.prog g (fs++[.d (encV x)]++cs) o nk fun r' o' nk'=>r'=.d (.bool (p x))∧o'=o∧nk'=nk):Spec Tryz.prog 163 [.d (.sl 5 (encVs xs)),.clo g fs cs] o nk (fun r' o' nk'=>r'=.d (.int .i64 (firstI p xs))∧o'=o∧nk'=nk):=by
 refine Spec.bd fun hbd=>?_;have hx:xs.length≤9223372036854775807:=by simpa [encVs_length] using hbd.1.1
 refine Spec.pure (fun _=>trivial) rfl (Spec.of_body fn163 (by simp) ?_);refine wr (ua (u_nil (WP.seq fun K2 hK2=>?_)));refine wr (um (un th25 ?_));refine um (u_nil (WP.block ?_));refine WP.loopL (ι:=Nat) (fun i=>⟨al [(0,.d (.sl 5 (encVs xs))),(1,.clo g fs cs),(7,.d (.int .i64 (encVs xs).length)),(8,.d (.int .i64 i))],o,nk⟩) (fun i=>i≤xs.length∧∀ (j:Nat) (hj:j < xs.length),j < i→p xs[j]=false) (fun i=>xs.length - i) (fun i hA=>?_) 0 ?_ ?_
 ·
  obtain ⟨hle_i,hin_i⟩:=hA;refine wr ?_;refine ub ?_;refine u_nil ?_;refine WP.seq fun K5 hK5=>?_;refine wc (fun hc6=>?_) (fun hc6=>?_) <;> try simp only [Q0,Q1,Q2,Q3,Q4,Q5,Q6,Q7,Q8,ge_iff_le,gt_iff_lt] at hc6
  ·
   refine WP.skip (hK5 _ (WP.seq fun K7 hK7=>?_));refine WP.block (wr (um (ua (u_nil (wr ?_)))));refine u_step (o_moveV (v:=.clo _ _ _) rfl ?_);refine um (um ?_)
   first | refine u_step (o_ia_map rfl rfl th25 rfl th27 rfl (by omega) ?_) | refine u_step (o_ia_vs rfl rfl th25 rfl th27 rfl (by omega) ?_)
   refine uL th27 ?_;refine u_step (o_sclo rfl (hclo _ (List.getElem_mem (by omega))) rfl ?_);refine u_nil ?_;refine wc (fun hc10=>?_) (fun hc10=>?_) <;> try simp only [Q0,Q1,Q2,Q3,Q4,Q5,Q6,Q7,Q8,ge_iff_le,gt_iff_lt] at hc10
   ·
    refine wr (um (ua (u_nil (WP.ret ?_))));refine ret_ok rfl ?_ (by omega) (fun _ _=>rfl);rw [firstI_at (by omega) hc10 hin_i]
   ·
    refine WP.skip (hK7 _ (WP.reg tabOk rfl ?_));refine ub (um (u_nil ?_));refine ⟨i+1,⟨by omega,?_⟩,by omega,?_⟩
    ·intro j hj h1;by_cases h2:j=i
     ·subst h2;exact hc10
     ·exact hin_i j hj (by omega)
    ·refine Le.al ?_;simp only [List.forall_mem_cons];exact ⟨rfl,rfl,rfl,cnt (by omega),by simp⟩
  ·
   refine WP.exit ?_;refine hK2 _ (wr (ua (u_nil (WP.ret ?_))));refine ret_ok rfl ?_ (by omega) (fun _ _=>rfl);rw [firstI_none fun j hj=>hin_i j hj (by omega)]
 ·
  simp
 ·
  refine Le.al ?_;simp only [List.forall_mem_cons];exact ⟨rfl,rfl,rfl,rfl,by simp⟩
theorem fn129:FnOk Tryz.prog 129 9 [4] (bodyOf Tryz.f129):=⟨Tryz.f129,Tryz.func129,by kernel_rfl,by decide,by kernel_rfl,by kernel_rfl⟩
theorem s129 {o:Nat→Option AO} {nk:Nat} (xs:List Val) (g:FuncId) (fs cs:List SV) (p:Val→Bool) (hclo:∀ x∈xs,Spec Tryz.prog g (fs++[.d (encV x)]++cs) o nk fun r' o' nk'=>r'=.d (.bool (p x))∧o'=o∧nk'=nk):Spec Tryz.prog 129 [.d (.sl 5 (encVs xs)),.clo g fs cs] o nk (fun r' o' nk'=>r'=.d (.bool (xs.any p))∧o'=o∧nk'=nk):=by
 refine Spec.pure (fun _=>trivial) rfl (Spec.of_body fn129 (by simp) ?_);refine wr (ua (u_nil (wr (um ?_))));refine u_step (o_moveV (v:=.clo _ _ _) rfl ?_);refine u_step (o_scall (s163 _ _ _ _ _ hclo) rfl ?_);refine ub (ua (u_nil (WP.ret ?_)));refine ret_ok rfl ?_ (by omega) (fun _ _=>rfl);rw [← firstI_nn]
theorem fn159:FnOk Tryz.prog 159 19 [4] (bodyOf Tryz.f159):=⟨Tryz.f159,Tryz.func159,by kernel_rfl,by decide,by kernel_rfl,by kernel_rfl⟩
theorem s159 {o:Nat→Option AO} {nk:Nat} (xs:List Dlt) (g:FuncId) (fs cs:List SV) (p:Dlt→Bool) (hclo:∀ x∈xs,Spec Tryz.prog g (fs++[.d (encD x)]++cs) o nk fun r' o' nk'=>r'=.d (.bool (p x))∧o'=o∧nk'=nk):Spec Tryz.prog 159 [.d (.sl 8 (xs.map encD)),.clo g fs cs] o nk (fun r' o' nk'=>r'=.d (.int .i64 (firstI p xs))∧o'=o∧nk'=nk):=by
 refine Spec.bd fun hbd=>?_;have hx:xs.length≤9223372036854775807:=by simpa [encVs_length] using hbd.1.1
 refine Spec.pure (fun _=>trivial) rfl (Spec.of_body fn159 (by simp) ?_);refine wr (ua (u_nil (WP.seq fun K2 hK2=>?_)));refine wr (um (un th28 ?_));refine um (u_nil (WP.block ?_));refine WP.loopL (ι:=Nat) (fun i=>⟨al [(0,.d (.sl 8 (xs.map encD))),(1,.clo g fs cs),(7,.d (.int .i64 (xs.map encD).length)),(8,.d (.int .i64 i))],o,nk⟩) (fun i=>i≤xs.length∧∀ (j:Nat) (hj:j < xs.length),j < i→p xs[j]=false) (fun i=>xs.length - i) (fun i hA=>?_) 0 ?_ ?_
 ·
  obtain ⟨hle_i,hin_i⟩:=hA;refine wr ?_;refine ub ?_;refine u_nil ?_;refine WP.seq fun K5 hK5=>?_;refine wc (fun hc6=>?_) (fun hc6=>?_) <;> try simp only [Q0,Q1,Q2,Q3,Q4,Q5,Q6,Q7,Q8,ge_iff_le,gt_iff_lt] at hc6
  ·
   refine WP.skip (hK5 _ (WP.seq fun K7 hK7=>?_));refine WP.block (wr (um (ua (u_nil (wr ?_)))));refine u_step (o_moveV (v:=.clo _ _ _) rfl ?_);refine um (um ?_)
   refine u_step (o_ia_map rfl rfl th28 rfl th83 rfl (by omega) ?_)
   refine uL th83 ?_;refine u_step (o_sclo rfl (hclo _ (List.getElem_mem (by omega))) rfl ?_);refine u_nil ?_;refine wc (fun hc10=>?_) (fun hc10=>?_) <;> try simp only [Q0,Q1,Q2,Q3,Q4,Q5,Q6,Q7,Q8,ge_iff_le,gt_iff_lt] at hc10
   ·
    refine wr (um (ua (u_nil (WP.ret ?_))));refine ret_ok rfl ?_ (by omega) (fun _ _=>rfl);rw [firstI_at (by omega) hc10 hin_i]
   ·
    refine WP.skip (hK7 _ (WP.reg tabOk rfl ?_));refine ub (um (u_nil ?_));refine ⟨i+1,⟨by omega,?_⟩,by omega,?_⟩
    ·intro j hj h1;by_cases h2:j=i
     ·subst h2;exact hc10
     ·exact hin_i j hj (by omega)
    ·refine Le.al ?_;simp only [List.forall_mem_cons];exact ⟨rfl,rfl,rfl,cnt (by omega),by simp⟩
  ·
   refine WP.exit ?_;refine hK2 _ (wr (ua (u_nil (WP.ret ?_))));refine ret_ok rfl ?_ (by omega) (fun _ _=>rfl);rw [firstI_none fun j hj=>hin_i j hj (by omega)]
 ·
  simp
 ·
  refine Le.al ?_;simp only [List.forall_mem_cons];exact ⟨rfl,rfl,rfl,rfl,by simp⟩
theorem fn121:FnOk Tryz.prog 121 9 [4] (bodyOf Tryz.f121):=⟨Tryz.f121,Tryz.func121,by kernel_rfl,by decide,by kernel_rfl,by kernel_rfl⟩
theorem s121 {o:Nat→Option AO} {nk:Nat} (xs:List Dlt) (g:FuncId) (fs cs:List SV) (p:Dlt→Bool) (hclo:∀ x∈xs,Spec Tryz.prog g (fs++[.d (encD x)]++cs) o nk fun r' o' nk'=>r'=.d (.bool (p x))∧o'=o∧nk'=nk):Spec Tryz.prog 121 [.d (.sl 8 (xs.map encD)),.clo g fs cs] o nk (fun r' o' nk'=>r'=.d (.bool (xs.any p))∧o'=o∧nk'=nk):=by
 refine Spec.pure (fun _=>trivial) rfl (Spec.of_body fn121 (by simp) ?_);refine wr (ua (u_nil (wr (um ?_))));refine u_step (o_moveV (v:=.clo _ _ _) rfl ?_);refine u_step (o_scall (s159 _ _ _ _ _ hclo) rfl ?_);refine ub (ua (u_nil (WP.ret ?_)));refine ret_ok rfl ?_ (by omega) (fun _ _=>rfl);rw [← firstI_nn]
theorem PSpec.extern {P : Program} {f : FuncId} {fn : Func} {e : Array Value → Sem Value} {args : List SV} {x : D} (hf : P.funcs[f]? = some fn) (hname : (fn.name == "runtime.NumGoroutine") = false) (hb : fn.body.isNone = true) (hn : Extern.findNext fn = none) (he : Extern.find fn = some e)
    (h:∀ (w:World) (S:Nat→Prop) (γ:Nat→Value) (o:Nat→Option AO) (vs:List Value),vs.length=args.length→(∀ (i:Nat) (c:SV) (v:Value),args[i]?=some c→vs[i]?=some v→SR w S γ o c v)→∃ u,(e vs.toArray).run P w=.ok u w∧Rd w S x u):PSpec P f args (.d x):=by
  intro o nk w S γ vs h1 h2 h3 h4;obtain ⟨u,h5,h6⟩:=h w S γ o vs h2 h3;unfold Does;rw [run_callFunc_extern hf hname hb hn he,h5];exact ⟨.d x,o,nk,S,γ,⟨rfl,rfl,rfl⟩,h1,Tr.refl _ _ _ _ _,.d _ _ h6,trivial⟩
theorem s208 (s:Str) (c:Int):PSpec Tryz.prog 208 [.d (.str s),.d (.int .u8 c)] (.d (.int .i64 (Go.Lib.indexByte s c.toNat.toUInt8))):=
 PSpec.extern Tryz.func208 (by kernel_rfl) (by kernel_rfl) (by kernel_rfl) (e:=Extern.BytealgIndexByte.indexByte) (by kernel_rfl) fun w S γ o vs hl hr=>by
  match vs,hl with
  | [u,v],_=>
   cases hr 0 _ u rfl rfl with
   | d _ _ hu=>cases hu with
    | str=>cases hr 1 _ v rfl rfl with
     | d _ _ hv=>cases hv with
      | int=>exact ⟨_,Go.Lib.run_indexByteString _ _ _,.int _ _⟩
theorem s212 (s t:Str):PSpec Tryz.prog 212 [.d (.str s),.d (.str t)] (.d (.int .i64 (Go.Lib.compareBytes s t))):=
 PSpec.extern Tryz.func212 (by kernel_rfl) (by kernel_rfl) (by kernel_rfl) (e:=Extern.BytealgCompare.compare) (by kernel_rfl) fun w S γ o vs hl hr=>by
  match vs,hl with
  | [u,v],_=>
   cases hr 0 _ u rfl rfl with
   | d _ _ hu=>cases hu with
    | str=>cases hr 1 _ v rfl rfl with
     | d _ _ hv=>cases hv with
      | str=>exact ⟨_,Go.Lib.run_compareString _ _ _,.int _ _⟩
theorem fn203:FnOk Tryz.prog 203 8 [4] (bodyOf Tryz.f203):=⟨Tryz.f203,Tryz.func203,by kernel_rfl,by decide,by kernel_rfl,by kernel_rfl⟩
theorem s203 (s:Str) (c:Int):PSpec Tryz.prog 203 [.d (.str s),.d (.int .u8 c)] (.d (.int .i64 (Go.Lib.indexByte s c.toNat.toUInt8))):=by
 refine PSpec.of fn203 (by simp) fun o nk=>?_;refine wr (ua (u_nil (wr (um (um ?_)))));refine u_step (o_pcall (s208 _ _) rfl ?_);refine ua (u_nil (WP.ret ?_));refine ret_ok rfl ?_ (by omega) (fun _ _=>rfl);rfl
theorem fn211:FnOk Tryz.prog 211 8 [4] (bodyOf Tryz.f211):=⟨Tryz.f211,Tryz.func211,by kernel_rfl,by decide,by kernel_rfl,by kernel_rfl⟩
theorem s211 (s t:Str):PSpec Tryz.prog 211 [.d (.str s),.d (.str t)] (.d (.int .i64 (Go.Lib.compareBytes s t))):=by
 refine PSpec.of fn211 (by simp) fun o nk=>?_;refine wr (ua (u_nil (wr (um (um ?_)))));refine u_step (o_pcall (s212 _ _) rfl ?_);refine ua (u_nil (WP.ret ?_));refine ret_ok rfl ?_ (by omega) (fun _ _=>rfl);rfl
theorem fn207:FnOk Tryz.prog 207 8 [4] (bodyOf Tryz.f207):=⟨Tryz.f207,Tryz.func207,by kernel_rfl,by decide,by kernel_rfl,by kernel_rfl⟩
theorem s207 (s t:Str):PSpec Tryz.prog 207 [.d (.str s),.d (.str t)] (.d (.int .i64 (Go.Lib.compareBytes s t))):=by
 refine PSpec.of fn207 (by simp) fun o nk=>?_;refine wr (ua (u_nil (wr (um (um ?_)))));refine u_step (o_pcall (s211 _ _) rfl ?_);refine ua (u_nil (WP.ret ?_));refine ret_ok rfl ?_ (by omega) (fun _ _=>rfl);rfl
theorem fn181:FnOk Tryz.prog 181 18 [4] (bodyOf Tryz.f181):=⟨Tryz.f181,Tryz.func181,by kernel_rfl,by decide,by kernel_rfl,by kernel_rfl⟩
theorem s181 (s p:Str):PSpec Tryz.prog 181 [.d (.str s),.d (.str p)] (.d (.bool (p.isPrefixOf s))):=by
 refine PSpec.of fn181 (by simp) fun o nk=>?_;refine wr (ua (u_nil (wr (um ?_))));refine u_step (o_len_str rfl th9 rfl ?_);refine um ?_;refine u_step (o_len_str rfl th9 rfl ?_);refine ub (um ?_);apply gT
 ·rfl
 ·intro hg;exact pm
 apply gT
 ·rfl
 ·intro hg;exact pm
 apply gT
 ·rfl
 ·intro hg;try simp only [hg,ct,Bt]
  refine o_len_str rfl th9 rfl ⟨rfl,rfl,rfl⟩
 apply gT
 ·rfl
 ·intro hg;try simp only [hg,ct,Bt]
  have hg2:=hg;try simp only [Q0,Q1,Q2,Q3,Q4,Q5,Q6,Q9,Qa,Qb,Qc,Qd] at hg2
  refine o_sl_str rfl th9 rfl (bnd_nat (by simp at hg;omega)) rfl ⟨rfl,rfl,rfl⟩
 apply gT
 ·rfl
 ·intro hg;exact pm
 apply gT
 ·rfl
 ·intro hg;try simp only [hg,ct,Bt]
  exact ps
 refine uA (ua (u_nil (WP.ret ?_)));refine ret_ok rfl ?_ (by omega) (fun _ _=>rfl);refine congrArg D.bool ?_;rw [Bool.eq_iff_iff];simp only [List.drop_zero,Bool.and_eq_true,decide_eq_true_eq,List.isPrefixOf_iff_prefix,List.prefix_iff_eq_take];constructor
 ·rintro ⟨_,h⟩;exact h.symm
 ·intro h;refine ⟨?_,h.symm⟩;have:=congrArg List.length h;simp at this;omega
theorem fn152:FnOk Tryz.prog 152 8 [4] (bodyOf Tryz.f152):=⟨Tryz.f152,Tryz.func152,by kernel_rfl,by decide,by kernel_rfl,by kernel_rfl⟩
theorem s152 (s p:Str):PSpec Tryz.prog 152 [.d (.str s),.d (.str p)] (.d (.bool (p.isPrefixOf s))):=by
 refine PSpec.of fn152 (by simp) fun o nk=>?_;refine wr (ua (u_nil (wr (um (um ?_)))));refine u_step (o_pcall (s181 _ _) rfl ?_);refine ua (u_nil (WP.ret ?_));refine ret_ok rfl ?_ (by omega) (fun _ _=>rfl);rfl
theorem take_snoc2 {ns:List Str} {i:Nat} (h:i < ns.length):ns.take (i+1)=ns.take i++[ns[i]]:=List.take_succ_eq_append_getElem h
theorem indexByte_nn (s:Str) (c:UInt8):decide (0≤Go.Lib.indexByte s c)=decide (c∈s):=by
 induction s with
 | nil=>simp [Go.Lib.indexByte]
 | cons x s ih=>
  rw [Bool.eq_iff_iff] at ih ⊢;simp only [decide_eq_true_eq] at ih ⊢;have h1:=Go.Lib.indexByte_ge s c;simp only [Go.Lib.indexByte,List.mem_cons];by_cases hx:x=c
  ·subst hx;simp
  ·have hx':¬ c=x:=fun e=>hx e.symm;simp only [beq_iff_eq,hx,if_false,hx',false_or];rw [← ih];split <;> omega
theorem fn199:FnOk Tryz.prog 199 143 [4] (bodyOf Tryz.f199):=⟨Tryz.f199,Tryz.func199,by kernel_rfl,by decide,by kernel_rfl,by kernel_rfl⟩
theorem s199 (s:Str):PSpec Tryz.prog 199 [.d (.str s),.d (.str [46])] (.d (.int .i64 (Go.Lib.indexByte s 46))):=by
 refine PSpec.of fn199 (by simp) fun o nk=>?_;refine wr (ua (u_nil (wr (um ?_))));refine u_step (o_len_str rfl th9 rfl ?_);refine ua (u_nil (WP.seq fun K3 hK3=>?_));refine WP.block (wr (um (ub (um ?_))));apply gF
 ·rfl
 ·intro hg;exact pm
 apply gF
 ·rfl
 ·intro hg;exact pm
 apply gF
 ·rfl
 ·intro hg;try simp only [hg,ct,Bt]
  exact ps
 refine uO ?_;refine ua ?_;refine u_nil ?_;refine wc (fun hc5=>?_) (fun hc5=>?_) <;> try simp only [Q0,Q1,Q2,Q3,Q4,Q5,Q6,Q7,Q8,ge_iff_le,gt_iff_lt] at hc5
 ·
  refine wr (ua (u_nil (WP.ret ?_)));refine ret_ok rfl ?_ (by omega) (fun _ _=>rfl);have hs:[46]=s:=by simpa using hc5
  subst hs;rfl
 ·
  refine wr ?_;refine um ?_;refine ub ?_;refine ua ?_;refine u_nil ?_;refine wc (fun hc8=>?_) (fun hc8=>?_) <;> try simp only [Q0,Q1,Q2,Q3,Q4,Q5,Q6,Q7,Q8,ge_iff_le,gt_iff_lt] at hc8
  ·
   refine wr (um (um ?_));refine u_step (o_ix rfl rfl th9 rfl ?_ ?_ ?_)
   ·decide
   ·decide
   refine u_step (o_pcall (s203 _ _) rfl ?_);refine ua (u_nil (WP.ret ?_));refine ret_ok rfl ?_ (by omega) (fun _ _=>rfl);rfl
  ·
   exact absurd hc8 (by decide)
theorem fn182:FnOk Tryz.prog 182 8 [4] (bodyOf Tryz.f182):=⟨Tryz.f182,Tryz.func182,by kernel_rfl,by decide,by kernel_rfl,by kernel_rfl⟩
theorem s182 (s:Str):PSpec Tryz.prog 182 [.d (.str s),.d (.str [46])] (.d (.int .i64 (Go.Lib.indexByte s 46))):=by
 refine PSpec.of fn182 (by simp) fun o nk=>?_;refine wr (ua (u_nil (wr (um (um ?_)))));refine u_step (o_pcall (s199 _) rfl ?_);refine ua (u_nil (WP.ret ?_));refine ret_ok rfl ?_ (by omega) (fun _ _=>rfl);rfl
theorem fn153:FnOk Tryz.prog 153 9 [4] (bodyOf Tryz.f153):=⟨Tryz.f153,Tryz.func153,by kernel_rfl,by decide,by kernel_rfl,by kernel_rfl⟩
theorem s153 (s:Str):PSpec Tryz.prog 153 [.d (.str s),.d (.str [46])] (.d (.bool (decide ((46:UInt8)∈s)))):=by
 refine PSpec.of fn153 (by simp) fun o nk=>?_;refine wr (ua (u_nil (wr (um (um ?_)))));refine u_step (o_pcall (s182 _) rfl ?_);refine ub (ua (u_nil (WP.ret ?_)));refine ret_ok rfl ?_ (by omega) (fun _ _=>rfl);rw [← indexByte_nn]
theorem fn111:FnOk Tryz.prog 111 21 [2] (bodyOf Tryz.f111):=⟨Tryz.f111,Tryz.func111,by kernel_rfl,by decide,by kernel_rfl,by kernel_rfl⟩
theorem s111 (x:Str):PSpec Tryz.prog 111 [.d (.str x)] (.d (.bool (nameV x))):=by
 refine PSpec.of fn111 (by simp) fun o nk=>?_;refine wr (ua (u_nil (wr (um ?_))));refine u_step (o_len_str rfl th9 rfl ?_);refine ub (um ?_);apply gT
 ·rfl
 ·intro hg;exact pm
 apply gT
 ·rfl
 ·intro hg;try simp only [hg,ct,Bt]
  refine o_len_str rfl th9 rfl ⟨rfl,rfl,rfl⟩
 apply gT
 ·rfl
 ·intro hg;try simp only [hg,ct,Bt]
  exact pb
 refine uA (um ?_);apply gT
 ·rfl
 ·intro hg;exact pm
 apply gT
 ·rfl
 ·intro hg;try simp only [hg,ct,Bt]
  refine o_pcall (s152 _ _) rfl ⟨rfl,rfl,rfl⟩
 apply gT
 ·rfl
 ·intro hg;try simp only [hg,ct,Bt]
  exact pN
 refine uA (um ?_);apply gT
 ·rfl
 ·intro hg;exact pm
 apply gT
 ·rfl
 ·intro hg;try simp only [hg,ct,Bt]
  refine o_pcall (s153 _) rfl ⟨rfl,rfl,rfl⟩
 apply gT
 ·rfl
 ·intro hg;try simp only [hg,ct,Bt]
  exact pN
 refine uA (ua (u_nil (WP.ret ?_)));refine ret_ok rfl ?_ (by omega) (fun _ _=>rfl);refine congrArg D.bool ?_;rw [Bool.eq_iff_iff];simp only [nameV,Bool.and_eq_true,decide_eq_true_eq,Bool.not_eq_true',decide_eq_false_iff_not];have h1:List.isPrefixOf [36] x=false↔x[0]?≠some 36:=by
  cases x with
  | nil=>simp [List.isPrefixOf]
  | cons c x=>
   simp only [List.isPrefixOf,List.getElem?_cons_zero,Bool.and_true,ne_eq,Option.some.injEq];by_cases h:c=36
   ·subst h;simp
   ·have h0:((36:UInt8) == c)=false:=by simpa using fun e=>h e.symm
    simp [h0,h]
 rw [h1];constructor
 ·rintro ⟨⟨⟨h2,h3⟩,h4⟩,h5⟩;exact ⟨by omega,by omega,h4,h5⟩
 ·rintro ⟨h2,h3,h4,h5⟩;exact ⟨⟨⟨by omega,by omega⟩,h4⟩,h5⟩
theorem fn128:FnOk Tryz.prog 128 24 [2] (bodyOf Tryz.f128):=⟨Tryz.f128,Tryz.func128,by kernel_rfl,by decide,by kernel_rfl,by kernel_rfl⟩
theorem s128 (ns:List Str):PSpec Tryz.prog 128 [.d (.sl 1 (ns.map .str))] (.d (.bool (namesV ns))):=by
 refine PSpec.bd fun hbd=>?_;have hx:ns.length≤9223372036854775807:=by simpa using hbd.1.1
 refine PSpec.of fn128 (by simp) fun o nk=>?_;refine wr (ua (u_nil (wr ?_)));refine u_step (g_mm fun o3 hb3 hk3=>?_);refine u_step (o_assignV (v:=.raw _) rfl ?_);refine u_nil (WP.seq fun K4 hK4=>?_);refine wr (um (un th22 ?_));refine um (u_nil (WP.block ?_));refine WP.loopL (ι:=Nat×(Nat→Option AO)) (fun ⟨i,o2⟩=>⟨al [(3,.raw nk),(7,.d (.sl 1 (ns.map .str))),(8,.d (.int .i64 (ns.map D.str).length)),(9,.d (.int .i64 i))],o2,(nk+1)⟩) (fun ⟨i,o2⟩=>i≤ns.length∧o2 nk=some (.raw (setOb (ns.take i)))∧(∀ t,t < nk→o2 t=o t)∧(ns.take i).all nameV=true∧(ns.take i).Nodup) (fun ⟨i,o2⟩=>ns.length - i) (fun ⟨i,o2⟩ hA=>?_) ⟨0,o3⟩ ?_ ?_
 ·
  obtain ⟨hle,hob,hfr,hal,hnd⟩:=hA;refine wr ?_;refine ub ?_;refine u_nil ?_;refine WP.seq fun K7 hK7=>?_;refine wc (fun hc8=>?_) (fun hc8=>?_) <;> try simp only [Q0,Q1,Q2,Q3,Q4,Q5,Q6,Q7,Q8,ge_iff_le,gt_iff_lt] at hc8
  ·
   refine WP.skip (hK7 _ (WP.seq fun K9 hK9=>?_));refine WP.block (wr ?_)
   refine u_step (o_ia_map rfl rfl th22 rfl th9 rfl (by omega) ?_)
   refine uL th9 ?_;refine ua (u_nil (WP.seq fun K11 hK11=>?_));refine wr (um ?_);refine u_step (o_pcall (s111 _) rfl ?_);refine uN (um ?_);apply gF
   ·rfl
   ·intro hg;refine o_moveV (v:=.raw _) rfl ⟨rfl,rfl,rfl⟩
   apply gF
   ·rfl
   ·intro hg;exact pm
   apply gF
   ·rfl
   ·intro hg;try simp only [hg,ct,Bt]
    refine o_lookup rfl rfl th138 rfl th9 rfl th4 rfl rfl hob ⟨rfl,rfl,rfl⟩
   refine uO ?_;refine u_nil ?_;refine wc (fun hc13=>?_) (fun hc13=>?_) <;> try simp only [Q0,Q1,Q2,Q3,Q4,Q5,Q6,Q7,Q8,ge_iff_le,gt_iff_lt] at hc13
   ·
    refine wr (ua (u_nil (WP.ret ?_)));refine ret_ok rfl ?_ (by omega) (fun t ht=>(hfr t (by omega)));rw [names_bad (by omega) hc13]
   ·
    refine WP.skip (hK11 _ (WP.reg tabOk rfl ?_));refine u_step (o_moveV (v:=.raw _) rfl ?_);refine um ?_;refine u_step0 (g_mu rfl rfl rfl th138 rfl th9 rfl hob (by simpa using (Bool.or_eq_false_iff.1 hc13).2) fun o15 hb15 hk15=>?_);refine u_nil (hK9 _ (WP.reg tabOk rfl ?_));refine ub (um (u_nil ?_));have hc:=Bool.or_eq_false_iff.1 hc13;refine ⟨⟨i+1,o15⟩,⟨by omega,?_,(fun t ht=>(hk15 t (by omega)).trans ((hfr t (by omega)))),?_,?_⟩,by simp only;omega,?_⟩
    ·rw [take_snoc2 (by omega)];exact hb15
    ·rw [all_snoc (by omega),hal];simpa using hc.1
    ·exact nodup_snoc (by omega) hnd (by simpa using hc.2)
    ·refine Le.al ?_;simp only [List.forall_mem_cons];exact ⟨rfl,rfl,rfl,cnt (by omega),by simp⟩
  ·
   refine WP.exit ?_;refine hK4 _ (wr (ua (u_nil (WP.ret ?_))));refine ret_ok rfl ?_ (by omega) (fun t ht=>(hfr t (by omega)));rw [names_good (by rwa [List.take_of_length_le (by omega)] at hal) (by rwa [List.take_of_length_le (by omega)] at hnd)]
 ·
  refine ⟨by simp,hb3,(fun t ht=>(hk3 t (by omega))),by simp,by simp⟩
 ·
  refine Le.al ?_;simp only [List.forall_mem_cons];exact ⟨rfl,rfl,rfl,rfl,by simp⟩
theorem fn130:FnOk Tryz.prog 130 6 [2] (bodyOf Tryz.f130):=⟨Tryz.f130,Tryz.func130,by kernel_rfl,by decide,by kernel_rfl,by kernel_rfl⟩
theorem s130 (x:Val) (h76:PSpec Tryz.prog 76 [.d (encV x)] (.d (.bool (mayV x)))):PSpec Tryz.prog 130 [.d (encV x)] (.d (.bool (!mayV x))):=by
 obtain ⟨kd,it,tx,xs,ns⟩:=x;refine PSpec.of fn130 (by simp) fun o nk=>?_;refine wr ?_;refine u_step (g_box rfl fun o2 hb2 hk2=>?_);refine ua (u_nil (wr (ug th27 hb2 ?_)));refine u_step (o_pcall (h76) rfl ?_);refine uN (ua (u_nil (WP.ret ?_)));refine ret_ok rfl ?_ (by omega) (fun t ht=>(hk2 t (by omega)));rfl
theorem fn76:FnOk Tryz.prog 76 109 [2] (bodyOf Tryz.f76):=⟨Tryz.f76,Tryz.func76,by kernel_rfl,by decide,by kernel_rfl,by kernel_rfl⟩
theorem s76A (m:Nat):∀ v:Val,SizeOf.sizeOf v < m→PSpec Tryz.prog 76 [.d (encV v)] (.d (.bool (mayV v))):=by
 induction m with
 | zero=>intros;omega
 | succ m ih=>
  rintro ⟨kd,it,tx,xs,ns⟩ hv;refine PSpec.bd fun hbd=>?_;refine PSpec.of fn76 (by simp) fun o nk=>?_;refine wr ?_;refine u_step (g_box rfl fun o2 hb2 hk2=>?_);refine ua (u_nil (wr (uf th27 th3 hb2 ?_)));refine ul th3 hb2 ?_;refine ub (um ?_);apply gF
  ·rfl
  ·intro hg;exact pf th27 th3 hb2
  apply gF
  ·rfl
  ·intro hg;try simp only [hg,ct,Bt]
   exact pl th3 hb2
  apply gF
  ·rfl
  ·intro hg;try simp only [hg,ct,Bt]
   exact pb
  refine uO (ua (u_nil (wr (uf th27 th3 hb2 ?_))));refine ul th3 hb2 ?_;refine ub (um ?_);apply gF
  ·rfl
  ·intro hg;exact pf th27 th3 hb2
  apply gF
  ·rfl
  ·intro hg;try simp only [hg,ct,Bt]
   exact pl th3 hb2
  apply gF
  ·rfl
  ·intro hg;try simp only [hg,ct,Bt]
   exact pb
  refine uO (ua (u_nil (wr (uf th27 th3 hb2 ?_))));refine ul th3 hb2 ?_;refine ub (um ?_);apply gF
  ·rfl
  ·intro hg;exact pf th27 th3 hb2
  apply gF
  ·rfl
  ·intro hg;try simp only [hg,ct,Bt]
   exact pl th3 hb2
  apply gF
  ·rfl
  ·intro hg;try simp only [hg,ct,Bt]
   exact pb
  refine uO (ua (u_nil (WP.seq fun K6 hK6=>?_)));refine WP.block (wr (uf th27 th3 hb2 ?_));refine ul th3 hb2 ?_;refine ub (um ?_);apply gF
  ·rfl
  ·intro hg;exact pf th27 th3 hb2
  apply gF
  ·rfl
  ·intro hg;try simp only [hg,ct,Bt]
   exact pl th3 hb2
  apply gF
  ·rfl
  ·intro hg;try simp only [hg,ct,Bt]
   exact pb
  refine uO ?_;refine ua ?_;refine u_nil ?_;refine wc (fun hc8=>?_) (fun hc8=>?_) <;> try simp only [Q0,Q1,Q2,Q3,Q4,Q5,Q6,Q7,Q8,ge_iff_le,gt_iff_lt] at hc8
  ·
   refine wr (ua (u_nil (WP.ret ?_)));refine ret_ok rfl ?_ (by omega) (fun t ht=>(hk2 t (by omega)));clear hK6;refine congrArg D.bool ?_;have e1:=encVs_length xs;clear hbd ih hv;rw [Bool.eq_iff_iff];have hkd:kd < 1∨7 < kd∨kd=1∨kd=2∨kd=3∨kd=4∨kd=5∨kd=6∨kd=7:=by omega
   rcases hkd with h | h | rfl | rfl | rfl | rfl | rfl | rfl | rfl <;> simp_all [mayV,maysV_all,kindOk,namesV]
   all_goals grind
  ·
   refine WP.seq fun K10 hK10=>?_;refine wr (uf th27 th25 hb2 ?_);refine ul th25 hb2 ?_;refine un th25 ?_;refine ub (um ?_);apply gT
   ·rfl
   ·intro hg;exact pm
   apply gT
   ·rfl
   ·intro hg;try simp only [hg,ct,Bt]
    exact pN
   refine uA ?_;refine ua ?_;refine u_nil ?_;refine wc (fun hc12=>?_) (fun hc12=>?_) <;> try simp only [Q0,Q1,Q2,Q3,Q4,Q5,Q6,Q7,Q8,ge_iff_le,gt_iff_lt] at hc12
   ·
    refine WP.skip ?_;refine hK10 _ ?_;refine wc (fun hc13=>?_) (fun hc13=>?_) <;> try simp only [Q0,Q1,Q2,Q3,Q4,Q5,Q6,Q7,Q8,ge_iff_le,gt_iff_lt] at hc13
    ·
     refine wr (ua (u_nil (WP.ret ?_)));refine ret_ok rfl ?_ (by omega) (fun t ht=>(hk2 t (by omega)));clear hK6 hK10;refine congrArg D.bool ?_;have e1:=encVs_length xs;clear hbd ih hv;rw [Bool.eq_iff_iff];have hkd:kd < 1∨7 < kd∨kd=1∨kd=2∨kd=3∨kd=4∨kd=5∨kd=6∨kd=7:=by omega
     rcases hkd with h | h | rfl | rfl | rfl | rfl | rfl | rfl | rfl <;> simp_all [mayV,maysV_all,kindOk,namesV]
     all_goals grind
    ·
     refine wr (uf th27 th3 hb2 ?_);refine ul th3 hb2 ?_;refine ub (um ?_);apply gT
     ·rfl
     ·intro hg;exact pf th27 th3 hb2
     apply gT
     ·rfl
     ·intro hg;try simp only [hg,ct,Bt]
      exact pl th3 hb2
     apply gT
     ·rfl
     ·intro hg;try simp only [hg,ct,Bt]
      exact pb
     refine uA (um ?_);apply gT
     ·rfl
     ·intro hg;exact pf th27 th3 hb2
     apply gT
     ·rfl
     ·intro hg;try simp only [hg,ct,Bt]
      exact pl th3 hb2
     apply gT
     ·rfl
     ·intro hg;try simp only [hg,ct,Bt]
      exact pb
     refine uA ?_;refine ua ?_;refine u_nil ?_;refine wc (fun hc16=>?_) (fun hc16=>?_) <;> try simp only [Q0,Q1,Q2,Q3,Q4,Q5,Q6,Q7,Q8,ge_iff_le,gt_iff_lt] at hc16
     ·
      refine wr (ua (u_nil (WP.ret ?_)));refine ret_ok rfl ?_ (by omega) (fun t ht=>(hk2 t (by omega)));clear hK6 hK10;refine congrArg D.bool ?_;have e1:=encVs_length xs;clear hbd ih hv;rw [Bool.eq_iff_iff];have hkd:kd < 1∨7 < kd∨kd=1∨kd=2∨kd=3∨kd=4∨kd=5∨kd=6∨kd=7:=by omega
      rcases hkd with h | h | rfl | rfl | rfl | rfl | rfl | rfl | rfl <;> simp_all [mayV,maysV_all,kindOk,namesV]
      all_goals grind
     ·
      refine wr (uf th27 th3 hb2 ?_);refine ul th3 hb2 ?_;refine ub (um ?_);apply gT
      ·rfl
      ·intro hg;exact pf th27 th22 hb2
      apply gT
      ·rfl
      ·intro hg;try simp only [hg,ct,Bt]
       exact pl th22 hb2
      apply gT
      ·rfl
      ·intro hg;try simp only [hg,ct,Bt]
       exact pn th22
      apply gT
      ·rfl
      ·intro hg;try simp only [hg,ct,Bt]
       exact pb
      refine uA ?_;refine ua ?_;refine u_nil ?_;refine wc (fun hc19=>?_) (fun hc19=>?_) <;> try simp only [Q0,Q1,Q2,Q3,Q4,Q5,Q6,Q7,Q8,ge_iff_le,gt_iff_lt] at hc19
      ·
       refine wr (ua (u_nil (WP.ret ?_)));refine ret_ok rfl ?_ (by omega) (fun t ht=>(hk2 t (by omega)));clear hK6 hK10;refine congrArg D.bool ?_;have e1:=encVs_length xs;clear hbd ih hv;rw [Bool.eq_iff_iff];have hkd:kd < 1∨7 < kd∨kd=1∨kd=2∨kd=3∨kd=4∨kd=5∨kd=6∨kd=7:=by omega
       rcases hkd with h | h | rfl | rfl | rfl | rfl | rfl | rfl | rfl <;> simp_all [mayV,maysV_all,kindOk,namesV]
       all_goals grind
      ·
       refine wr (uf th27 th3 hb2 ?_);refine ul th3 hb2 ?_;refine ub (um ?_);apply gT
       ·rfl
       ·intro hg;exact pf th27 th22 hb2
       apply gT
       ·rfl
       ·intro hg;try simp only [hg,ct,Bt]
        exact pl th22 hb2
       apply gT
       ·rfl
       ·intro hg;try simp only [hg,ct,Bt]
        exact pn th22
       apply gT
       ·rfl
       ·intro hg;exact pf th27 th25 hb2
       apply gT
       ·rfl
       ·intro hg;try simp only [hg,ct,Bt]
        exact pl th25 hb2
       apply gT
       ·rfl
       ·intro hg;try simp only [hg,ct,Bt]
        exact pn th25
       apply gT
       ·rfl
       ·intro hg;try simp only [hg,ct,Bt]
        exact pb
       apply gT
       ·rfl
       ·intro hg;try simp only [hg,ct,Bt]
        exact pm
       apply u_guard
       ·exact GC.cf _ _
       ·intro hg;exact pf th27 th22 hb2
       apply u_guard
       ·exact GC.cf _ _
       ·intro hg;try simp only [hg,ct,Bt]
        exact pl th22 hb2
       apply u_guard
       ·exact GC.cf _ _
       ·intro hg;try simp only [hg,ct,Bt]
        refine o_pcall (s128 ns) rfl ⟨rfl,rfl,rfl⟩
       apply u_guard
       ·exact GC.cf _ _
       ·intro hg;try simp only [hg,ct,Bt]
        exact pN
       apply gT
       ·rfl
       ·intro hg;try simp only [hg,ct,Bt]
        exact pO
       refine uA ?_;refine ua ?_;refine u_nil ?_;refine wc (fun hc22=>?_) (fun hc22=>?_) <;> try simp only [Q0,Q1,Q2,Q3,Q4,Q5,Q6,Q7,Q8,ge_iff_le,gt_iff_lt] at hc22
       ·
        refine wr (ua (u_nil (WP.ret ?_)));refine ret_ok rfl ?_ (by omega) (fun t ht=>(hk2 t (by omega)));clear hK6 hK10;refine congrArg D.bool ?_;have e1:=encVs_length xs;clear hbd ih hv;rw [Bool.eq_iff_iff];have hkd:kd < 1∨7 < kd∨kd=1∨kd=2∨kd=3∨kd=4∨kd=5∨kd=6∨kd=7:=by omega
        rcases hkd with h | h | rfl | rfl | rfl | rfl | rfl | rfl | rfl <;> simp_all [mayV,maysV_all,kindOk,namesV]
        all_goals grind
       ·
        refine WP.skip (hK6 _ (wr (uf th27 th25 hb2 ?_)));refine ul th25 hb2 ?_;refine u_step (o_scall (s129 xs 130 [] [] (fun x=>!mayV x) (fun x hx=>s130 x (ih x (by obtain ⟨j,hj,rfl⟩:=List.mem_iff_getElem.1 hx;exact items_lt' hj hv)) _ _)) rfl ?_);refine uN (ua (u_nil (WP.ret ?_)));refine ret_ok rfl ?_ (by omega) (fun t ht=>(hk2 t (by omega)));clear hK6 hK10;refine congrArg D.bool ?_;have e1:=encVs_length xs;clear hbd ih hv;rw [Bool.eq_iff_iff];have hkd:kd < 1∨7 < kd∨kd=1∨kd=2∨kd=3∨kd=4∨kd=5∨kd=6∨kd=7:=by omega
        rcases hkd with h | h | rfl | rfl | rfl | rfl | rfl | rfl | rfl <;> simp_all [mayV,maysV_all,kindOk,namesV]
        all_goals grind
   ·
    refine wr (uf th27 th3 hb2 ?_);refine ul th3 hb2 ?_;refine ub (um ?_);apply gT
    ·rfl
    ·intro hg;exact pm
    apply gT
    ·rfl
    ·intro hg;try simp only [hg,ct,Bt]
     exact pN
    refine uA ?_;refine ua ?_;refine u_nil ?_;refine wc (fun hc26=>?_) (fun hc26=>?_) <;> try simp only [Q0,Q1,Q2,Q3,Q4,Q5,Q6,Q7,Q8,ge_iff_le,gt_iff_lt] at hc26
    ·
     refine WP.skip ?_;refine hK10 _ ?_;refine wc (fun hc27=>?_) (fun hc27=>?_) <;> try simp only [Q0,Q1,Q2,Q3,Q4,Q5,Q6,Q7,Q8,ge_iff_le,gt_iff_lt] at hc27
     ·
      refine wr (ua (u_nil (WP.ret ?_)));refine ret_ok rfl ?_ (by omega) (fun t ht=>(hk2 t (by omega)));clear hK6 hK10;refine congrArg D.bool ?_;have e1:=encVs_length xs;clear hbd ih hv;rw [Bool.eq_iff_iff];have hkd:kd < 1∨7 < kd∨kd=1∨kd=2∨kd=3∨kd=4∨kd=5∨kd=6∨kd=7:=by omega
      rcases hkd with h | h | rfl | rfl | rfl | rfl | rfl | rfl | rfl <;> simp_all [mayV,maysV_all,kindOk,namesV]
      all_goals grind
     ·
      refine wr (uf th27 th3 hb2 ?_);refine ul th3 hb2 ?_;refine ub (um ?_);apply gT
      ·rfl
      ·intro hg;exact pf th27 th3 hb2
      apply gT
      ·rfl
      ·intro hg;try simp only [hg,ct,Bt]
       exact pl th3 hb2
      apply gT
      ·rfl
      ·intro hg;try simp only [hg,ct,Bt]
       exact pb
      refine uA (um ?_);apply gT
      ·rfl
      ·intro hg;exact pf th27 th3 hb2
      apply gT
      ·rfl
      ·intro hg;try simp only [hg,ct,Bt]
       exact pl th3 hb2
      apply gT
      ·rfl
      ·intro hg;try simp only [hg,ct,Bt]
       exact pb
      refine uA ?_;refine ua ?_;refine u_nil ?_;refine wc (fun hc30=>?_) (fun hc30=>?_) <;> try simp only [Q0,Q1,Q2,Q3,Q4,Q5,Q6,Q7,Q8,ge_iff_le,gt_iff_lt] at hc30
      ·
       refine wr (ua (u_nil (WP.ret ?_)));refine ret_ok rfl ?_ (by omega) (fun t ht=>(hk2 t (by omega)));clear hK6 hK10;refine congrArg D.bool ?_;have e1:=encVs_length xs;clear hbd ih hv;rw [Bool.eq_iff_iff];have hkd:kd < 1∨7 < kd∨kd=1∨kd=2∨kd=3∨kd=4∨kd=5∨kd=6∨kd=7:=by omega
       rcases hkd with h | h | rfl | rfl | rfl | rfl | rfl | rfl | rfl <;> simp_all [mayV,maysV_all,kindOk,namesV]
       all_goals grind
      ·
       refine wr (uf th27 th3 hb2 ?_);refine ul th3 hb2 ?_;refine ub (um ?_);apply gT
       ·rfl
       ·intro hg;exact pf th27 th22 hb2
       apply gT
       ·rfl
       ·intro hg;try simp only [hg,ct,Bt]
        exact pl th22 hb2
       apply gT
       ·rfl
       ·intro hg;try simp only [hg,ct,Bt]
        exact pn th22
       apply gT
       ·rfl
       ·intro hg;try simp only [hg,ct,Bt]
        exact pb
       refine uA ?_;refine ua ?_;refine u_nil ?_;refine wc (fun hc33=>?_) (fun hc33=>?_) <;> try simp only [Q0,Q1,Q2,Q3,Q4,Q5,Q6,Q7,Q8,ge_iff_le,gt_iff_lt] at hc33
       ·
        refine wr (ua (u_nil (WP.ret ?_)));refine ret_ok rfl ?_ (by omega) (fun t ht=>(hk2 t (by omega)));clear hK6 hK10;refine congrArg D.bool ?_;have e1:=encVs_length xs;clear hbd ih hv;rw [Bool.eq_iff_iff];have hkd:kd < 1∨7 < kd∨kd=1∨kd=2∨kd=3∨kd=4∨kd=5∨kd=6∨kd=7:=by omega
        rcases hkd with h | h | rfl | rfl | rfl | rfl | rfl | rfl | rfl <;> simp_all [mayV,maysV_all,kindOk,namesV]
        all_goals grind
       ·
        refine wr (uf th27 th3 hb2 ?_);refine ul th3 hb2 ?_;refine ub (um ?_);apply gT
        ·rfl
        ·intro hg;exact pf th27 th22 hb2
        apply gT
        ·rfl
        ·intro hg;try simp only [hg,ct,Bt]
         exact pl th22 hb2
        apply gT
        ·rfl
        ·intro hg;try simp only [hg,ct,Bt]
         exact pn th22
        apply gT
        ·rfl
        ·intro hg;exact pf th27 th25 hb2
        apply gT
        ·rfl
        ·intro hg;try simp only [hg,ct,Bt]
         exact pl th25 hb2
        apply gT
        ·rfl
        ·intro hg;try simp only [hg,ct,Bt]
         exact pn th25
        apply gT
        ·rfl
        ·intro hg;try simp only [hg,ct,Bt]
         exact pb
        apply gT
        ·rfl
        ·intro hg;try simp only [hg,ct,Bt]
         exact pm
        apply u_guard
        ·exact GC.cf _ _
        ·intro hg;exact pf th27 th22 hb2
        apply u_guard
        ·exact GC.cf _ _
        ·intro hg;try simp only [hg,ct,Bt]
         exact pl th22 hb2
        apply u_guard
        ·exact GC.cf _ _
        ·intro hg;try simp only [hg,ct,Bt]
         refine o_pcall (s128 ns) rfl ⟨rfl,rfl,rfl⟩
        apply u_guard
        ·exact GC.cf _ _
        ·intro hg;try simp only [hg,ct,Bt]
         exact pN
        apply gT
        ·rfl
        ·intro hg;try simp only [hg,ct,Bt]
         exact pO
        refine uA ?_;refine ua ?_;refine u_nil ?_;refine wc (fun hc36=>?_) (fun hc36=>?_) <;> try simp only [Q0,Q1,Q2,Q3,Q4,Q5,Q6,Q7,Q8,ge_iff_le,gt_iff_lt] at hc36
        ·
         refine wr (ua (u_nil (WP.ret ?_)));refine ret_ok rfl ?_ (by omega) (fun t ht=>(hk2 t (by omega)));clear hK6 hK10;refine congrArg D.bool ?_;have e1:=encVs_length xs;clear hbd ih hv;rw [Bool.eq_iff_iff];have hkd:kd < 1∨7 < kd∨kd=1∨kd=2∨kd=3∨kd=4∨kd=5∨kd=6∨kd=7:=by omega
         rcases hkd with h | h | rfl | rfl | rfl | rfl | rfl | rfl | rfl <;> simp_all [mayV,maysV_all,kindOk,namesV]
         all_goals grind
        ·
         refine WP.skip (hK6 _ (wr (uf th27 th25 hb2 ?_)));refine ul th25 hb2 ?_;refine u_step (o_scall (s129 xs 130 [] [] (fun x=>!mayV x) (fun x hx=>s130 x (ih x (by obtain ⟨j,hj,rfl⟩:=List.mem_iff_getElem.1 hx;exact items_lt' hj hv)) _ _)) rfl ?_);refine uN (ua (u_nil (WP.ret ?_)));refine ret_ok rfl ?_ (by omega) (fun t ht=>(hk2 t (by omega)));clear hK6 hK10;refine congrArg D.bool ?_;have e1:=encVs_length xs;clear hbd ih hv;rw [Bool.eq_iff_iff];have hkd:kd < 1∨7 < kd∨kd=1∨kd=2∨kd=3∨kd=4∨kd=5∨kd=6∨kd=7:=by omega
         rcases hkd with h | h | rfl | rfl | rfl | rfl | rfl | rfl | rfl <;> simp_all [mayV,maysV_all,kindOk,namesV]
         all_goals grind
    ·
     refine WP.reg tabOk rfl ?_;refine uf th27 th9 hb2 ?_;refine ul th9 hb2 ?_;refine u_step (o_bin_str rfl (show _=SV.d (.str []) from rfl) rfl ?_);refine um ?_;apply gT
     ·rfl
     ·intro hg;exact pm
     apply gT
     ·rfl
     ·intro hg;try simp only [hg,ct,Bt]
      exact pN
     refine uA ?_;refine ua ?_;refine u_nil ?_;refine hK10 _ ?_;refine wc (fun hc39=>?_) (fun hc39=>?_) <;> try simp only [Q0,Q1,Q2,Q3,Q4,Q5,Q6,Q7,Q8,ge_iff_le,gt_iff_lt] at hc39
     ·
      refine wr (ua (u_nil (WP.ret ?_)));refine ret_ok rfl ?_ (by omega) (fun t ht=>(hk2 t (by omega)));clear hK6 hK10;refine congrArg D.bool ?_;have e1:=encVs_length xs;clear hbd ih hv;rw [Bool.eq_iff_iff];have hkd:kd < 1∨7 < kd∨kd=1∨kd=2∨kd=3∨kd=4∨kd=5∨kd=6∨kd=7:=by omega
      rcases hkd with h | h | rfl | rfl | rfl | rfl | rfl | rfl | rfl <;> simp_all [mayV,maysV_all,kindOk,namesV]
      all_goals grind
     ·
      refine wr (uf th27 th3 hb2 ?_);refine ul th3 hb2 ?_;refine ub (um ?_);apply gT
      ·rfl
      ·intro hg;exact pf th27 th3 hb2
      apply gT
      ·rfl
      ·intro hg;try simp only [hg,ct,Bt]
       exact pl th3 hb2
      apply gT
      ·rfl
      ·intro hg;try simp only [hg,ct,Bt]
       exact pb
      refine uA (um ?_);apply gT
      ·rfl
      ·intro hg;exact pf th27 th3 hb2
      apply gT
      ·rfl
      ·intro hg;try simp only [hg,ct,Bt]
       exact pl th3 hb2
      apply gT
      ·rfl
      ·intro hg;try simp only [hg,ct,Bt]
       exact pb
      refine uA ?_;refine ua ?_;refine u_nil ?_;refine wc (fun hc42=>?_) (fun hc42=>?_) <;> try simp only [Q0,Q1,Q2,Q3,Q4,Q5,Q6,Q7,Q8,ge_iff_le,gt_iff_lt] at hc42
      ·
       refine wr (ua (u_nil (WP.ret ?_)));refine ret_ok rfl ?_ (by omega) (fun t ht=>(hk2 t (by omega)));clear hK6 hK10;refine congrArg D.bool ?_;have e1:=encVs_length xs;clear hbd ih hv;rw [Bool.eq_iff_iff];have hkd:kd < 1∨7 < kd∨kd=1∨kd=2∨kd=3∨kd=4∨kd=5∨kd=6∨kd=7:=by omega
       rcases hkd with h | h | rfl | rfl | rfl | rfl | rfl | rfl | rfl <;> simp_all [mayV,maysV_all,kindOk,namesV]
       all_goals grind
      ·
       refine wr (uf th27 th3 hb2 ?_);refine ul th3 hb2 ?_;refine ub (um ?_);apply gT
       ·rfl
       ·intro hg;exact pf th27 th22 hb2
       apply gT
       ·rfl
       ·intro hg;try simp only [hg,ct,Bt]
        exact pl th22 hb2
       apply gT
       ·rfl
       ·intro hg;try simp only [hg,ct,Bt]
        exact pn th22
       apply gT
       ·rfl
       ·intro hg;try simp only [hg,ct,Bt]
        exact pb
       refine uA ?_;refine ua ?_;refine u_nil ?_;refine wc (fun hc45=>?_) (fun hc45=>?_) <;> try simp only [Q0,Q1,Q2,Q3,Q4,Q5,Q6,Q7,Q8,ge_iff_le,gt_iff_lt] at hc45
       ·
        refine wr (ua (u_nil (WP.ret ?_)));refine ret_ok rfl ?_ (by omega) (fun t ht=>(hk2 t (by omega)));clear hK6 hK10;refine congrArg D.bool ?_;have e1:=encVs_length xs;clear hbd ih hv;rw [Bool.eq_iff_iff];have hkd:kd < 1∨7 < kd∨kd=1∨kd=2∨kd=3∨kd=4∨kd=5∨kd=6∨kd=7:=by omega
        rcases hkd with h | h | rfl | rfl | rfl | rfl | rfl | rfl | rfl <;> simp_all [mayV,maysV_all,kindOk,namesV]
        all_goals grind
       ·
        refine wr (uf th27 th3 hb2 ?_);refine ul th3 hb2 ?_;refine ub (um ?_);apply gT
        ·rfl
        ·intro hg;exact pf th27 th22 hb2
        apply gT
        ·rfl
        ·intro hg;try simp only [hg,ct,Bt]
         exact pl th22 hb2
        apply gT
        ·rfl
        ·intro hg;try simp only [hg,ct,Bt]
         exact pn th22
        apply gT
        ·rfl
        ·intro hg;exact pf th27 th25 hb2
        apply gT
        ·rfl
        ·intro hg;try simp only [hg,ct,Bt]
         exact pl th25 hb2
        apply gT
        ·rfl
        ·intro hg;try simp only [hg,ct,Bt]
         exact pn th25
        apply gT
        ·rfl
        ·intro hg;try simp only [hg,ct,Bt]
         exact pb
        apply gT
        ·rfl
        ·intro hg;try simp only [hg,ct,Bt]
         exact pm
        apply u_guard
        ·exact GC.cf _ _
        ·intro hg;exact pf th27 th22 hb2
        apply u_guard
        ·exact GC.cf _ _
        ·intro hg;try simp only [hg,ct,Bt]
         exact pl th22 hb2
        apply u_guard
        ·exact GC.cf _ _
        ·intro hg;try simp only [hg,ct,Bt]
         refine o_pcall (s128 ns) rfl ⟨rfl,rfl,rfl⟩
        apply u_guard
        ·exact GC.cf _ _
        ·intro hg;try simp only [hg,ct,Bt]
         exact pN
        apply gT
        ·rfl
        ·intro hg;try simp only [hg,ct,Bt]
         exact pO
        refine uA ?_;refine ua ?_;refine u_nil ?_;refine wc (fun hc48=>?_) (fun hc48=>?_) <;> try simp only [Q0,Q1,Q2,Q3,Q4,Q5,Q6,Q7,Q8,ge_iff_le,gt_iff_lt] at hc48
        ·
         refine wr (ua (u_nil (WP.ret ?_)));refine ret_ok rfl ?_ (by omega) (fun t ht=>(hk2 t (by omega)));clear hK6 hK10;refine congrArg D.bool ?_;have e1:=encVs_length xs;clear hbd ih hv;rw [Bool.eq_iff_iff];have hkd:kd < 1∨7 < kd∨kd=1∨kd=2∨kd=3∨kd=4∨kd=5∨kd=6∨kd=7:=by omega
         rcases hkd with h | h | rfl | rfl | rfl | rfl | rfl | rfl | rfl <;> simp_all [mayV,maysV_all,kindOk,namesV]
         all_goals grind
        ·
         refine WP.skip (hK6 _ (wr (uf th27 th25 hb2 ?_)));refine ul th25 hb2 ?_;refine u_step (o_scall (s129 xs 130 [] [] (fun x=>!mayV x) (fun x hx=>s130 x (ih x (by obtain ⟨j,hj,rfl⟩:=List.mem_iff_getElem.1 hx;exact items_lt' hj hv)) _ _)) rfl ?_);refine uN (ua (u_nil (WP.ret ?_)));refine ret_ok rfl ?_ (by omega) (fun t ht=>(hk2 t (by omega)));clear hK6 hK10;refine congrArg D.bool ?_;have e1:=encVs_length xs;clear hbd ih hv;rw [Bool.eq_iff_iff];have hkd:kd < 1∨7 < kd∨kd=1∨kd=2∨kd=3∨kd=4∨kd=5∨kd=6∨kd=7:=by omega
         rcases hkd with h | h | rfl | rfl | rfl | rfl | rfl | rfl | rfl <;> simp_all [mayV,maysV_all,kindOk,namesV]
         all_goals grind
theorem s76 (v:Val):PSpec Tryz.prog 76 [.d (encV v)] (.d (.bool (mayV v))):=s76A _ v (Nat.lt_succ_self _)
theorem fn140:FnOk Tryz.prog 140 20 [2] (bodyOf Tryz.f140):=⟨Tryz.f140,Tryz.func140,by kernel_rfl,by decide,by kernel_rfl,by kernel_rfl⟩
theorem s140 (u:Nat) (hu:u < 18446744073709551616):RSpec Tryz.prog 140 [.d (.int .u64 u)] 5 1 (bytesD (grp u)):=by
 refine RSpec.of fn140 (by simp) fun o nk=>?_;refine WP.seq fun K1 hK1=>?_;refine WP.reg tabOk rfl ?_;refine u_step (o_assign rfl ?_);refine u_nil (hK1 _ (WP.seq fun K3 hK3=>?_));refine WP.reg tabOk rfl ?_;refine u_step (o_assign rfl ?_);refine u_nil (hK3 _ (WP.seq fun K2 hK2=>?_));refine WP.block ?_;refine WP.loopL (ι:=Nat×Str×SV×(Nat→Option AO)×Nat) (fun ⟨m,acc,c,o2,nk2⟩=>⟨al [(0,.d (.int .u64 m)),(3,c)],o2,nk2⟩)
  (fun ⟨m,acc,c,o2,nk2⟩=>acc++grp m=grp u∧m≤u∧nk≤nk2∧(∃ q,dstOf o2 5 1 c=some (q,bytesD acc)∧∀ t,q=some t→nk≤t∧t < nk2)∧∀ t,t < nk→o2 t=o t)
  (fun ⟨m,_,_,_,_⟩=>m) (fun ⟨m,acc,c,o2,nk2⟩ hA=>?_) (u,[],.d .nil,o,nk) ?_ ?_
 ·obtain ⟨hac,hm,hnk,⟨q,hd,hq⟩,hfr⟩:=hA;have hlen:acc.length+(grp m).length=(grp u).length:=by rw [← hac];simp
  have hgl:(grp u).length≤10:=grp_len 10 u (by omega) (by omega);have hgm:1≤(grp m).length:=by
   by_cases h:m < 128
   ·rw [grp_lt h];simp
   ·rw [grp_ge h];simp
  refine WP.seq fun K4 hK4=>?_;refine WP.seq fun K5 hK5=>?_;refine WP.reg tabOk rfl ?_;refine u_step (o_move rfl ?_);refine u_step (o_bin_int rfl rfl (by decide) rfl ?_);refine u_nil (hK5 _ ?_);refine WP.cond rfl (fun hc=>?_) (fun hc=>?_)
  ·simp only [decide_eq_true_eq] at hc;have hge:¬ m < 128:=by omega
   refine WP.skip (hK4 _ (WP.block (WP.seq fun K6 hK6=>?_)));refine WP.reg tabOk rfl ?_;refine u_step (o_moveV (v:=c) rfl ?_);refine u_step (o_move rfl ?_);refine u_step (o_bin_int rfl rfl (by decide) rfl ?_);refine u_step (o_cv_int rfl th126 th5 rfl ?_);refine u_step (o_bin_int rfl rfl (by decide) rfl ?_);refine u_step (o_bs rfl th52 rfl th5 rfl rfl (by decide) rfl (by decide) (by decide) ?_);refine u_step (g_apD (q:=q) (xs:=bytesD acc) (show dstOf _ _ _ (ev _ _)=_ from hd) rfl th52 rfl th5 rfl rfl (by decide) rfl (by rw [bytesD_length];simp;omega) (by rw [bytesD_length];simp;omega) fun o3 hb hk=>?_);refine uS (u_nil (hK6 _ (WP.reg tabOk rfl ?_)));refine u_step (o_move rfl ?_);refine u_step (o_bin_int rfl rfl (by decide) rfl ?_);refine u_step (o_assign rfl ?_);refine u_nil ?_;have hv:IntKind.u8.wrap (IntKind.u8.wrap ((m:Int).tmod 128)+128)=((UInt8.ofNat (m % 128+128)).toNat:Int):=by
    rw [wrap_u8,wrap_u8];have:(m:Int).tmod 128=((m % 128:Nat):Int):=by rw [Int.tmod_eq_emod_of_nonneg (by omega)];omega
    rw [this];simp
   have hv2:IntKind.u64.wrap ((m:Int).tdiv 128)=((m / 128:Nat):Int):=by
    rw [Int.tdiv_eq_ediv_of_nonneg (by omega),wrap_u64 (by omega) (by omega)];omega
   refine ⟨(m / 128,acc++[UInt8.ofNat (m % 128+128)],.row nk2,o3,nk2+1),⟨?_,by omega,by omega,⟨some nk2,?_,?_⟩,?_⟩,by simp only;omega,?_⟩
   ·rw [← hac,grp_ge hge];simp
   ·rw [← bytesD_snoc,← hv];exact dst_row hb
   ·intro t ht;injection ht with ht;omega
   ·intro t ht;rw [hk t (by omega) (fun e=>by have:=hq t e.symm;omega),hfr t ht]
   ·refine Le.al ?_;simp only [List.forall_mem_cons];exact ⟨(by rw [← hv2];rfl),rfl,by simp⟩
  ·simp only [decide_eq_false_iff_not] at hc;have hlt:m < 128:=by omega
   refine WP.exit ?_;refine hK2 _ (WP.seq fun K6 hK6=>?_);refine WP.reg tabOk rfl ?_;refine u_step (o_moveV (v:=c) rfl ?_);refine u_step (o_move rfl ?_);refine u_step (o_cv_int rfl th126 th5 rfl ?_);refine u_step (o_bs rfl th52 rfl th5 rfl rfl (by decide) rfl (by decide) (by decide) ?_);refine u_step (g_apD (q:=q) (xs:=bytesD acc) (show dstOf _ _ _ (ev _ _)=_ from hd) rfl th52 rfl th5 rfl rfl (by decide) rfl (by rw [bytesD_length];simp;omega) (by rw [bytesD_length];simp;omega) fun o3 hb hk=>?_);refine uS (u_nil (hK6 _ (WP.ret ?_)));have hv:IntKind.u8.wrap (m:Int)=((UInt8.ofNat m).toNat:Int):=by rw [wrap_u8];simp
   refine rrow_ok rfl (by omega) (by omega) ?_ ?_
   ·rw [← hac,grp_lt hlt,← bytesD_snoc,← hv];exact hb
   ·intro t ht;rw [hk t (by omega) (fun e=>by have:=hq t e.symm;omega),hfr t ht]
 ·exact ⟨by simp,by omega,by omega,⟨none,rfl,by simp⟩,fun _ _=>rfl⟩
 ·refine Le.al ?_;simp only [List.forall_mem_cons];exact ⟨rfl,rfl,by simp⟩
def u64 (m:Int):Nat:=(m % 18446744073709551616).toNat
theorem u64_lt (m:Int):u64 m < 18446744073709551616:=by unfold u64;omega
theorem u64_wrap (m:Int):IntKind.u64.wrap m=(u64 m:Int):=by
 simp only [IntKind.wrap,IntKind.bits,IntKind.signed,u64];simp;omega
theorem s140w (m:Int):RSpec Tryz.prog 140 [.d (.int .u64 (IntKind.u64.wrap m))] 5 1 (bytesD (grp (u64 m))):=by
 rw [u64_wrap];exact s140 _ (u64_lt m)
def zigN (x:Int):Nat:=if 0≤x then u64 (2 * u64 x) else u64 (2 * u64 (-(x+1))+1)
theorem fn88:FnOk Tryz.prog 88 6 [2] (bodyOf Tryz.f88):=⟨Tryz.f88,Tryz.func88,by kernel_rfl,by decide,by kernel_rfl,by kernel_rfl⟩
theorem s88 (n:Int):RSpec Tryz.prog 88 [.d (.int .i64 n)] 5 1 (bytesD (grp (u64 n))):=by
 refine RSpec.of fn88 (by simp) fun o nk=>?_;refine wr (ua (u_nil (wr (um (uc th3 th126 ?_)))));refine u_step (o_rcall (s140w n) rfl fun q3 o3 nk3 hqa3 hqb3 hb3 hk3=>?_);refine uS (u_nil (WP.ret ?_));refine rrow_ok rfl (by omega) (by omega) ?_ (fun t ht=>(hk3 t (by omega)));exact hb3
theorem fn89:FnOk Tryz.prog 89 9 [2] (bodyOf Tryz.f89):=⟨Tryz.f89,Tryz.func89,by kernel_rfl,by decide,by kernel_rfl,by kernel_rfl⟩
theorem s89 (s:Str) (hs:s.length≤70368744177664):RSpec Tryz.prog 89 [.d (.str s)] 5 1 (bytesD (grp (u64 s.length)++s)):=by
 have hgl:(grp (u64 s.length)).length≤10:=grp_len 10 _ (by have:=u64_lt s.length;omega) (by omega);refine RSpec.of fn89 (by simp) fun o nk=>?_;refine wr (ua (u_nil (wr (um ?_))));refine u_step (o_len_str rfl th9 rfl ?_);refine u_step (o_rcall (s88 _) rfl fun q3 o3 nk3 hqa3 hqb3 hb3 hk3=>?_);refine um ?_;refine u_step (o_cv_bytes rfl th9 rfl th52 rfl th5 rfl ?_ ?_)
 ·first | assumption | omega
 refine u_step (g_ap rfl rfl th52 rfl th5 rfl rfl (by decide) rfl hb3 (by simp only [bytesD_length];omega) (by simp only [bytesD_length];omega) fun o4 hb4 hk4=>?_);refine uS (u_nil (WP.ret ?_));refine rrow_ok rfl (by omega) (by omega) ?_ (fun t ht=>(hk4 t (by omega) (by omega)).trans ((hk3 t (by omega))));simpa [bytesD] using hb4
theorem fn170:FnOk Tryz.prog 170 14 [2] (bodyOf Tryz.f170):=⟨Tryz.f170,Tryz.func170,by kernel_rfl,by decide,by kernel_rfl,by kernel_rfl⟩
theorem s170 (x:Int) (h1:-9223372036854775808≤x) (h2:x≤9223372036854775807):PSpec Tryz.prog 170 [.d (.int .i64 x)] (.d (.int .u64 (zigN x:Int))):=by
 refine PSpec.of fn170 (by simp) fun o nk=>?_;refine wr ?_;refine ua ?_;refine u_nil ?_;refine WP.seq fun K2 hK2=>?_;refine wr ?_;refine um ?_;refine ub ?_;refine u_nil ?_;refine wc (fun hc4=>?_) (fun hc4=>?_) <;> try simp only [Q0,Q1,Q2,Q3,Q4,Q5,Q6,Q7,Q8,ge_iff_le,gt_iff_lt] at hc4
 ·
  refine wr (um (uc th3 th126 ?_));refine ub (ua (u_nil (WP.ret ?_)));refine ret_ok rfl ?_ (by omega) (fun _ _=>rfl);refine congrArg (D.int .u64) ?_;rw [zigN,if_pos hc4,u64_wrap x,u64_wrap]
 ·
  refine WP.skip (hK2 _ (wr (um (ub ?_))));refine u_step (o_un rfl rfl ?_);refine uc th3 th126 ?_;refine ub (ub (ua (u_nil (WP.ret ?_))));refine ret_ok rfl ?_ (by omega) (fun _ _=>rfl);refine congrArg (D.int .u64) ?_;have e1:IntKind.i64.wrap (x+1)=x+1:=wrap_i64 (by omega) (by omega);have e2:IntKind.i64.wrap (0 - (x+1))=-(x+1):=by rw [wrap_i64 (by omega) (by omega)];omega
  rw [zigN,if_neg hc4,e1,e2];simp only [u64_wrap,u64];omega
theorem fn141:FnOk Tryz.prog 141 6 [2] (bodyOf Tryz.f141):=⟨Tryz.f141,Tryz.func141,by kernel_rfl,by decide,by kernel_rfl,by kernel_rfl⟩
theorem s141 (x:Int) (h1:-9223372036854775808≤x) (h2:x≤9223372036854775807):RSpec Tryz.prog 141 [.d (.int .i64 x)] 5 1 (bytesD (grp (zigN x))):=by
 refine RSpec.of fn141 (by simp) fun o nk=>?_;refine wr ?_;refine ua ?_;refine u_nil ?_;refine wr ?_;refine um ?_;refine u_step (o_pcall (s170 x h1 h2) rfl ?_);refine u_step (o_rcall (s140 (zigN x) (by unfold zigN;split <;> exact u64_lt _)) rfl fun q3 o3 nk3 hqa3 hqb3 hb3 hk3=>?_);refine uS ?_;refine u_nil ?_;refine WP.ret ?_;refine rrow_ok rfl (by omega) (by omega) ?_ (fun t ht=>(hk3 t (by omega)));exact hb3
theorem or128 (m:Nat):bitsOf .or .u8 (IntKind.u8.wrap (m:Int)) 128=((UInt8.ofNat (m % 128+128)).toNat:Int):=by
 have h1:∀ b:BitVec 8,(b ||| 128#8).toNat=b.toNat % 128+128:=by decide
 have e:bitsOf .or .u8 (IntKind.u8.wrap (m:Int)) 128=IntKind.u8.wrap ((BitVec.ofInt 8 (IntKind.u8.wrap (m:Int)) ||| 128#8).toNat:Int):=rfl;rw [e,wrap_u8,wrap_u8,h1];simp;omega
theorem fn138:FnOk Tryz.prog 138 20 [4] (bodyOf Tryz.f138):=⟨Tryz.f138,Tryz.func138,by kernel_rfl,by decide,by kernel_rfl,by kernel_rfl⟩
theorem s138 (u:Nat) (hu:u < 18446744073709551616):RSpec Tryz.prog 138 [.d .nil,.d (.int .u64 u)] 5 1 (bytesD (grp u)):=by
 refine RSpec.of fn138 (by simp) fun o nk=>?_;refine WP.seq fun K1 hK1=>?_;refine WP.reg tabOk rfl ?_;refine u_step (o_assign rfl ?_);refine u_nil (hK1 _ (WP.seq fun K2 hK2=>?_));refine WP.block ?_;refine WP.loopL (ι:=Nat×Str×SV×(Nat→Option AO)×Nat) (fun ⟨m,acc,c,o2,nk2⟩=>⟨al [(1,.d (.int .u64 m)),(0,c)],o2,nk2⟩)
  (fun ⟨m,acc,c,o2,nk2⟩=>acc++grp m=grp u∧m≤u∧nk≤nk2∧(∃ q,dstOf o2 5 1 c=some (q,bytesD acc)∧∀ t,q=some t→nk≤t∧t < nk2)∧∀ t,t < nk→o2 t=o t)
  (fun ⟨m,_,_,_,_⟩=>m) (fun ⟨m,acc,c,o2,nk2⟩ hA=>?_) (u,[],.d .nil,o,nk) ?_ ?_
 ·obtain ⟨hac,hm,hnk,⟨q,hd,hq⟩,hfr⟩:=hA;have hlen:acc.length+(grp m).length=(grp u).length:=by rw [← hac];simp
  have hgl:(grp u).length≤10:=grp_len 10 u (by omega) (by omega);have hgm:1≤(grp m).length:=by
   by_cases h:m < 128
   ·rw [grp_lt h];simp
   ·rw [grp_ge h];simp
  refine WP.seq fun K4 hK4=>?_;refine WP.seq fun K5 hK5=>?_;refine WP.reg tabOk rfl ?_;refine u_step (o_move rfl ?_);refine u_step (o_bin_int rfl rfl (by decide) rfl ?_);refine u_nil (hK5 _ ?_);refine WP.cond rfl (fun hc=>?_) (fun hc=>?_)
  ·simp only [decide_eq_true_eq] at hc;have hge:¬ m < 128:=by omega
   refine WP.skip (hK4 _ (WP.seq fun K6 hK6=>?_));refine WP.block (WP.reg tabOk rfl ?_);refine u_step (o_moveV (v:=c) rfl ?_);refine u_step (o_move rfl ?_);refine u_step (o_cv_int rfl th126 th5 rfl ?_);refine u_step (o_bin_int rfl rfl (by decide) rfl ?_);refine u_step (o_bs rfl th52 rfl th5 rfl rfl (by decide) rfl (by decide) (by decide) ?_);refine u_step (g_apD (q:=q) (xs:=bytesD acc) (show dstOf _ _ _ (ev _ _)=_ from hd) rfl th52 rfl th5 rfl rfl (by decide) rfl (by rw [bytesD_length];simp;omega) (by rw [bytesD_length];simp;omega) fun o3 hb hk=>?_);refine uS (u_nil (hK6 _ (WP.reg tabOk rfl ?_)));refine u_step (o_move rfl ?_);refine u_step (o_bin_sh rfl rfl rfl ?_);refine u_step (o_assign rfl ?_);refine u_nil ?_;have hv2:(m:Int).fdiv (2 ^ min (7:Int).toNat IntKind.u64.bits)=((m / 128:Nat):Int):=by
    show (m:Int).fdiv 128=_;rw [Int.fdiv_eq_ediv_of_nonneg _ (by omega)];omega
   refine ⟨(m / 128,acc++[UInt8.ofNat (m % 128+128)],.row nk2,o3,nk2+1),⟨?_,by omega,by omega,⟨some nk2,?_,?_⟩,?_⟩,by simp only;omega,?_⟩
   ·rw [← hac,grp_ge hge];simp
   ·rw [← bytesD_snoc,← or128];exact dst_row hb
   ·intro t ht;injection ht with ht;omega
   ·intro t ht;rw [hk t (by omega) (fun e=>by have:=hq t e.symm;omega),hfr t ht]
   ·refine Le.al ?_;simp only [List.forall_mem_cons];exact ⟨(by rw [← hv2];rfl),rfl,by simp⟩
  ·simp only [decide_eq_false_iff_not] at hc;have hlt:m < 128:=by omega
   refine WP.exit ?_;refine hK2 _ (WP.seq fun K6 hK6=>?_);refine WP.reg tabOk rfl ?_;refine u_step (o_moveV (v:=c) rfl ?_);refine u_step (o_move rfl ?_);refine u_step (o_cv_int rfl th126 th5 rfl ?_);refine u_step (o_bs rfl th52 rfl th5 rfl rfl (by decide) rfl (by decide) (by decide) ?_);refine u_step (g_apD (q:=q) (xs:=bytesD acc) (show dstOf _ _ _ (ev _ _)=_ from hd) rfl th52 rfl th5 rfl rfl (by decide) rfl (by rw [bytesD_length];simp;omega) (by rw [bytesD_length];simp;omega) fun o3 hb hk=>?_);refine uS (u_nil (hK6 _ (WP.ret ?_)));have hv:IntKind.u8.wrap (m:Int)=((UInt8.ofNat m).toNat:Int):=by rw [wrap_u8];simp
   refine rrow_ok rfl (by omega) (by omega) ?_ ?_
   ·rw [← hac,grp_lt hlt,← bytesD_snoc,← hv];exact hb
   ·intro t ht;rw [hk t (by omega) (fun e=>by have:=hq t e.symm;omega),hfr t ht]
 ·exact ⟨by simp,by omega,by omega,⟨none,rfl,by simp⟩,fun _ _=>rfl⟩
 ·refine Le.al ?_;simp only [List.forall_mem_cons];exact ⟨rfl,rfl,by simp⟩
theorem xor_zig {x:Int} (h1:-9223372036854775808≤x) (h2:x≤9223372036854775807) :
    bitsOf .xor .u64 (IntKind.u64.wrap (IntKind.u64.wrap x * 2 ^ min (1:Int).toNat IntKind.u64.bits)) (IntKind.u64.wrap (x.fdiv (2 ^ min (63:Int).toNat IntKind.i64.bits)))=(zigN x:Int):=by
  have e0:IntKind.u64.wrap x * 2 ^ min (1:Int).toNat IntKind.u64.bits=2 * IntKind.u64.wrap x:=by
    show IntKind.u64.wrap x * 2=_;omega
  have e1:x.fdiv (2 ^ min (63:Int).toNat IntKind.i64.bits)=if 0≤x then 0 else -1:=by
    show x.fdiv 9223372036854775808=_;rw [Int.fdiv_eq_ediv_of_nonneg _ (by omega)];split <;> omega
  have e2:∀ a b:Int,bitsOf .xor .u64 a b=IntKind.u64.wrap ((BitVec.ofInt 64 a ^^^ BitVec.ofInt 64 b).toNat:Int):=fun _ _=>rfl;rw [e0,e1,e2];by_cases h:0≤x
  · rw [if_pos h];have hz:BitVec.ofInt 64 (IntKind.u64.wrap 0)=0#64:=rfl;rw [hz,BitVec.xor_zero,BitVec.toNat_ofInt,zigN,if_pos h];simp only [u64_wrap,u64];omega
  · rw [if_neg h];have hz:BitVec.ofInt 64 (IntKind.u64.wrap (-1))=BitVec.allOnes 64:=by decide
    rw [hz,BitVec.xor_allOnes,BitVec.toNat_not,BitVec.toNat_ofInt,zigN,if_neg h];simp only [u64_wrap,u64];omega
theorem s138x {x:Int} (h1:-9223372036854775808≤x) (h2:x≤9223372036854775807) :
    RSpec Tryz.prog 138 [.d .nil,.d (.int .u64 (bitsOf .xor .u64 (IntKind.u64.wrap (IntKind.u64.wrap x * 2 ^ min (1:Int).toNat IntKind.u64.bits)) (IntKind.u64.wrap (x.fdiv (2 ^ min (63:Int).toNat IntKind.i64.bits)))))] 5 1 (bytesD (grp (zigN x))):=by
  rw [xor_zig h1 h2];exact s138 (zigN x) (by unfold zigN;split <;> exact u64_lt _)
theorem s138w (m:Int):RSpec Tryz.prog 138 [.d .nil,.d (.int .u64 (IntKind.u64.wrap m))] 5 1 (bytesD (grp (u64 m))):=by
 rw [u64_wrap];exact s138 _ (u64_lt m)
theorem fn169:FnOk Tryz.prog 169 11 [2] (bodyOf Tryz.f169):=⟨Tryz.f169,Tryz.func169,by kernel_rfl,by decide,by kernel_rfl,by kernel_rfl⟩
theorem s169 (x:Int) (h1:-9223372036854775808≤x) (h2:x≤9223372036854775807):RSpec Tryz.prog 169 [.d (.int .i64 x)] 5 1 (bytesD (grp (zigN x))):=by
 refine RSpec.of fn169 (by simp) fun o nk=>?_;refine wr (ua (u_nil (wr (um (uc th3 th126 ?_)))));refine u_step (o_bin_sh rfl rfl rfl ?_);refine um ?_;refine u_step (o_bin_sh rfl rfl rfl ?_);refine uc th3 th126 ?_;refine ub ?_;refine u_step (o_rcall (s138x h1 h2) rfl fun q3 o3 nk3 hqa3 hqb3 hb3 hk3=>?_);refine uS (u_nil (WP.ret ?_));refine rrow_ok rfl (by omega) (by omega) ?_ (fun t ht=>(hk3 t (by omega)));exact hb3
theorem fn137:FnOk Tryz.prog 137 13 [2,3] (bodyOf Tryz.f137):=⟨Tryz.f137,Tryz.func137,by kernel_rfl,by decide,by kernel_rfl,by kernel_rfl⟩
theorem s137 (n:Int) (h1:0≤n) (h2:n≤4611686018427387904):RDSpec Tryz.prog 137 [.d (.int .i64 n)] 5 1 (bytesD (grp (u64 n))) (.int .i64 0):=by
 refine RDSpec.of fn137 (by simp) fun o nk=>?_;refine wr (ua (ua (u_nil (WP.seq fun K2 hK2=>?_))));refine wr (um (ub (um ?_)));apply gF
 ·rfl
 ·intro hg;exact pm
 apply gF
 ·rfl
 ·intro hg;try simp only [hg,ct,Bt]
  exact pb
 refine uO ?_;refine u_nil ?_;refine wc (fun hc4=>?_) (fun hc4=>?_) <;> try simp only [Q0,Q1,Q2,Q3,Q4,Q5,Q6,Q7,Q8,ge_iff_le,gt_iff_lt] at hc4
 ·
  exfalso;simp at hc4;omega
 ·
  refine WP.skip (hK2 _ (wr (um (uc th3 th126 ?_))));refine u_step (o_rcall (s138w n) rfl fun q6 o6 nk6 hqa6 hqb6 hb6 hk6=>?_);refine uS (ua (u_nil (WP.ret ?_)));refine rrowd_ok rfl ?_ (by omega) (by omega) ?_ (fun t ht=>(hk6 t (by omega)))
  ·rfl
  exact hb6
theorem fn187:FnOk Tryz.prog 187 12 [2] (bodyOf Tryz.f187):=⟨Tryz.f187,Tryz.func187,by kernel_rfl,by decide,by kernel_rfl,by kernel_rfl⟩
theorem s187 (n:Int) (h1:0≤n) (h2:n≤4611686018427387904):PSpec Tryz.prog 187 [.d (.int .i64 n)] (.d (.int .i64 ((grp (u64 n)).length:Int))):=by
 refine PSpec.of fn187 (by simp) fun o nk=>?_;refine wr (ua (u_nil (wr (um ?_))));refine u_step (o_rdcall (s137 n h1 h2) rfl fun q3 o3 nk3 hqa3 hqb3 hb3 hk3=>?_);refine u_step (o_moveV (v:=.tup _) rfl ?_);refine ue (ue (uS (ua (u_nil (wr (uR ?_))))));refine u_step (o_len_row rfl th52 rfl hb3 ?_);refine ua (u_nil (WP.ret ?_));refine ret_ok rfl ?_ (by omega) (fun t ht=>(hk3 t (by omega)));rw [bytesD_length]
theorem fn186:FnOk Tryz.prog 186 9 [2] (bodyOf Tryz.f186):=⟨Tryz.f186,Tryz.func186,by kernel_rfl,by decide,by kernel_rfl,by kernel_rfl⟩
theorem s186 (s:Str) (hs:s.length≤70368744177664):PSpec Tryz.prog 186 [.d (.str s)] (.d (.int .i64 (((grp (u64 s.length)).length+s.length:Nat):Int))):=by
 have hgl:(grp (u64 s.length)).length≤10:=grp_len 10 _ (by have:=u64_lt s.length;omega) (by omega);refine PSpec.of fn186 (by simp) fun o nk=>?_;refine wr (ua (u_nil (wr (um ?_))));refine u_step (o_len_str rfl th9 rfl ?_);refine u_step (o_pcall (s187 s.length (by omega) (by omega)) rfl ?_);refine um ?_;refine u_step (o_len_str rfl th9 rfl ?_);refine ub (ua (u_nil (WP.ret ?_)));refine ret_ok rfl ?_ (by omega) (fun _ _=>rfl);rw [wrap_i64 (by omega) (by omega)];simp
theorem max_i (a b:Nat):(if (a:Int) < (b:Int) then (b:Int) else (a:Int))=((max a b:Nat):Int):=by split <;> omega
theorem fn160:FnOk Tryz.prog 160 20 [2] (bodyOf Tryz.f160):=⟨Tryz.f160,Tryz.func160,by kernel_rfl,by decide,by kernel_rfl,by kernel_rfl⟩
theorem s160A (m:Nat):∀ v:Val,SizeOf.sizeOf v < m→szV v≤1099511627776→PSpec Tryz.prog 160 [.d (encV v)] (.d (.int .i64 (depthV v:Int))):=by
 induction m with
 | zero=>intros;omega
 | succ m ih=>
  rintro ⟨kd,it,tx,xs,ns⟩ hv hsz;have hsz2:1+tx.length+szVs xs+szN ns≤1099511627776:=hsz;have hxl:=szVs_len xs;have hnl:=szN_len ns;have hdp:=depths_sz xs;refine PSpec.of fn160 (by simp) fun o nk=>?_;refine wr ?_;refine u_step (g_box rfl fun o2 hb2 hk2=>?_);refine ua (u_nil (wr (ua (u_nil (WP.seq fun K4 hK4=>?_)))));refine wr (uf th27 th25 hb2 ?_);refine ul th25 hb2 ?_;refine un th25 ?_;refine um (u_nil (WP.block ?_));refine WP.loopL (ι:=Nat×(Nat→Option AO)×Nat) (fun ⟨i,o2,nk2⟩=>⟨al [(3,.d (.int .i64 (depthsV (xs.take i):Nat))),(7,.d (.sl 5 (encVs xs))),(8,.d (.int .i64 (encVs xs).length)),(9,.d (.int .i64 i))],o2,nk2⟩) (fun ⟨i,o2,nk2⟩=>i≤xs.length∧nk≤nk2∧(∀ t,t < nk→o2 t=o t)) (fun ⟨i,o2,nk2⟩=>xs.length - i) (fun ⟨i,o2,nk2⟩ hA=>?_) ⟨0,o2,(nk+1)⟩ ?_ ?_
  ·
   obtain ⟨hle,hnk,hfr⟩:=hA;refine wr ?_;refine ub ?_;refine u_nil ?_;refine WP.seq fun K7 hK7=>?_;refine wc (fun hc8=>?_) (fun hc8=>?_) <;> try simp only [Q0,Q1,Q2,Q3,Q4,Q5,Q6,Q7,Q8,ge_iff_le,gt_iff_lt] at hc8
   ·
    refine WP.skip (hK7 _ (WP.seq fun K9 hK9=>?_));refine WP.block (wr ?_)
    first | refine u_step (o_ia_map rfl rfl th25 rfl th27 rfl (by omega) ?_) | refine u_step (o_ia_vs rfl rfl th25 rfl th27 rfl (by omega) ?_)
    refine uL th27 ?_;refine u_step (g_alloc th27 rfl fun o11 hb11 hk11=>?_);refine u_step0 (g_sta rfl (congrArg SV.d (encV_eq _)) th27 rfl hb11 (by simp [valCells]) fun o12 hb12 hk12=>?_);refine u_nil (WP.reg tabOk rfl ?_);refine um (ug th27 hb12 ?_);refine u_step (o_pcall (pv (v:=xs[i]) (ih _ (by exact items_lt' (by omega) hv) (by have:=szVs_get (xs:=xs) (j:=i) (by omega);omega))) rfl ?_);refine u_step (o_mm (by decide) rfl ?_);refine ua (u_nil (hK9 _ (WP.reg tabOk rfl ?_)));refine ub (um (u_nil ?_));refine ⟨⟨i+1,o12,(nk2+1)⟩,⟨by omega,by omega,(fun t ht=>(hk12 t (by omega)).trans ((hk11 t (by omega)).trans ((hfr t (by omega)))))⟩,by simp only;omega,?_⟩;refine Le.al ?_;simp only [List.forall_mem_cons];exact ⟨(by rw [depthsV_snoc (by omega),← max_i];rfl),rfl,rfl,cnt (by omega),by simp⟩
   ·
    refine WP.exit ?_;refine hK4 _ (wr (um (ub (ua (u_nil (WP.ret ?_))))));refine ret_ok rfl ?_ (by omega) (fun t ht=>(hfr t (by omega)));refine congrArg (D.int .i64) ?_;have h0:xs.take i=xs:=List.take_of_length_le (by omega);rw [h0,wrap_succ (by omega)];rfl
  ·
   refine ⟨by simp,by omega,(fun t ht=>(hk2 t (by omega)))⟩
  ·
   refine Le.al ?_;simp only [List.forall_mem_cons];exact ⟨rfl,rfl,rfl,rfl,by simp⟩
theorem s160 (v:Val) (hsz:szV v≤1099511627776):PSpec Tryz.prog 160 [.d (encV v)] (.d (.int .i64 (depthV v:Int))):=s160A _ v (Nat.lt_succ_self _) hsz
theorem fn116:FnOk Tryz.prog 116 25 [2] (bodyOf Tryz.f116):=⟨Tryz.f116,Tryz.func116,by kernel_rfl,by decide,by kernel_rfl,by kernel_rfl⟩
theorem s116A (m:Nat):∀ v:Val,SizeOf.sizeOf v < m→szV v≤1099511627776→PSpec Tryz.prog 116 [.d (encV v)] (.d (.int .i64 (depthV v:Int))):=by
 induction m with
 | zero=>intros;omega
 | succ m ih=>
  rintro ⟨kd,it,tx,xs,ns⟩ hv hsz;have hsz2:1+tx.length+szVs xs+szN ns≤1099511627776:=hsz;have hxl:=szVs_len xs;have hnl:=szN_len ns;have hdp:=depths_sz xs;refine PSpec.of fn116 (by simp) fun o nk=>?_;refine wr ?_;refine u_step (g_box rfl fun o2 hb2 hk2=>?_);refine ua (u_nil (wr (ua (u_nil (WP.seq fun K4 hK4=>?_)))));refine wr (ua (u_nil (WP.block ?_)));refine WP.loopL (ι:=Nat) (fun i=>⟨al [(1,.loc nk 0),(3,.d (.int .i64 (depthsV (xs.take i):Nat))),(4,.d (.int .i64 i))],o2,(nk+1)⟩) (fun i=>i≤xs.length∧True) (fun i=>xs.length - i) (fun i hA=>?_) 0 ?_ ?_
  ·
   obtain ⟨hle_i,hin_i⟩:=hA;refine WP.seq fun K6 hK6=>?_;refine wr ?_;refine um ?_;refine uf th27 th25 hb2 ?_;refine ul th25 hb2 ?_;refine un th25 ?_;refine ub ?_;refine u_nil ?_;refine wc (fun hc8=>?_) (fun hc8=>?_) <;> try simp only [Q0,Q1,Q2,Q3,Q4,Q5,Q6,Q7,Q8,ge_iff_le,gt_iff_lt] at hc8
   ·
    refine WP.skip (hK6 _ (WP.seq fun K9 hK9=>?_));refine WP.block (wr (uf th27 th25 hb2 ?_));refine ul th25 hb2 ?_;refine um ?_
    first | refine u_step (o_ia_map rfl rfl th25 rfl th27 rfl (by omega) ?_) | refine u_step (o_ia_vs rfl rfl th25 rfl th27 rfl (by omega) ?_)
    refine uL th27 ?_;refine u_step (o_pcall (ih _ (by exact items_lt' (by omega) hv) (by have:=szVs_get (xs:=xs) (j:=i) (by omega);omega)) rfl ?_);refine ua ?_;refine u_nil ?_;refine wr ?_;refine um ?_;refine um ?_;refine ub ?_;refine u_nil ?_;refine wc (fun hc12=>?_) (fun hc12=>?_) <;> try simp only [Q0,Q1,Q2,Q3,Q4,Q5,Q6,Q7,Q8,ge_iff_le,gt_iff_lt] at hc12
    ·
     refine WP.reg tabOk rfl ?_;refine um (ua (u_nil (hK9 _ (WP.reg tabOk rfl ?_))));refine um (ub (ua (u_nil ?_)));refine ⟨i+1,⟨by omega,trivial⟩,by omega,?_⟩;refine Le.al ?_;simp only [List.forall_mem_cons];have hmx:=depthsV_snoc (xs:=xs) (i:=i) (by omega);refine ⟨rfl,?_,cnt (by omega),by simp⟩
     first | (show SV.d (.int .i64 (depthV xs[i]:Int))=_;rw [hmx];refine congrArg (fun n:Int=>SV.d (.int .i64 n)) ?_;omega) | (show SV.d (.int .i64 (depthsV (xs.take i):Int))=_;rw [hmx];refine congrArg (fun n:Int=>SV.d (.int .i64 n)) ?_;omega)
    ·
     refine WP.skip (hK9 _ (WP.reg tabOk rfl ?_));refine um (ub (ua (u_nil ?_)));refine ⟨i+1,⟨by omega,trivial⟩,by omega,?_⟩;refine Le.al ?_;simp only [List.forall_mem_cons];have hmx:=depthsV_snoc (xs:=xs) (i:=i) (by omega);refine ⟨rfl,?_,cnt (by omega),by simp⟩
     first | (show SV.d (.int .i64 (depthV xs[i]:Int))=_;rw [hmx];refine congrArg (fun n:Int=>SV.d (.int .i64 n)) ?_;omega) | (show SV.d (.int .i64 (depthsV (xs.take i):Int))=_;rw [hmx];refine congrArg (fun n:Int=>SV.d (.int .i64 n)) ?_;omega)
   ·
    refine WP.exit ?_;refine hK4 _ (wr (um (ub (ua (u_nil (WP.ret ?_))))));refine ret_ok rfl ?_ (by omega) (fun t ht=>(hk2 t (by omega)));refine congrArg (D.int .i64) ?_;have h0:xs.take i=xs:=List.take_of_length_le (by omega);rw [h0,wrap_succ (by omega)];rfl
  ·
   simp
  ·
   refine Le.al ?_;simp only [List.forall_mem_cons];exact ⟨rfl,rfl,rfl,by simp⟩
theorem s116 (v:Val) (hsz:szV v≤1099511627776):PSpec Tryz.prog 116 [.d (encV v)] (.d (.int .i64 (depthV v:Int))):=s116A _ v (Nat.lt_succ_self _) hsz
mutual
def rngV:Val→Prop
 | .mk _ i _ xs _=>(-9223372036854775808≤i∧i≤9223372036854775807)∧rngVs xs
def rngVs:List Val→Prop
 | []=>True
 | x :: xs=>rngV x∧rngVs xs
end
theorem rngVs_get:∀ {xs:List Val} {j:Nat} (_:rngVs xs) (h:j < xs.length),rngV (xs[j]'h)
 | x :: xs,0,hr,_=>hr.1
 | x :: xs,j+1,hr,h=>rngVs_get (xs:=xs) (j:=j) hr.2 (by simpa using h)
def cntN (n:Nat):Nat:=(grp (u64 n)).length
def textN (s:Str):Nat:=(grp (u64 s.length)).length+s.length
def namesN:List Str→Nat
 | []=>0
 | s :: r=>textN s+namesN r
mutual
def sizeV:Val→Nat
 | .mk k i t xs ns=>if k=1 then 1 else if k=2 then 2 else if k=3 then 1+(grp (zigN i)).length else if k=4∨k=5 then 1+textN t else 1+cntN xs.length+sizesV xs+namesN ns
def sizesV:List Val→Nat
 | []=>0
 | x :: xs=>sizeV x+sizesV xs
end
theorem cntN_le (n:Nat):cntN n≤10:=grp_len 10 _ (by have:=u64_lt (n:Int);omega) (by omega)
theorem zig_lt (x:Int):zigN x < 18446744073709551616:=by unfold zigN;split <;> exact u64_lt _
theorem zig_le (x:Int):(grp (zigN x)).length≤10:=grp_len 10 _ (Nat.lt_of_lt_of_le (zig_lt x) (by decide)) (by omega)
theorem textN_le (s:Str):textN s≤10+s.length:=by have:=cntN_le s.length;unfold textN cntN at *;omega
theorem namesN_le:∀ ns,namesN ns≤11 * szN ns
 | []=>by simp [namesN]
 | s :: r=>by
  have:=namesN_le r;have:=textN_le s;simp only [namesN,szN];omega
mutual
theorem sizeV_le:∀ v,sizeV v≤12 * szV v
 | .mk k i t xs ns=>by
  have h1:=sizesV_le xs;have h2:=namesN_le ns;have h3:=cntN_le xs.length;have h4:=zig_le i;have h5:=textN_le t;simp only [sizeV,szV];split
  ·omega
  ·split
   ·omega
   ·split
    ·omega
    ·split <;> omega
theorem sizesV_le:∀ xs,sizesV xs≤12 * szVs xs
 | []=>by simp [sizesV]
 | x :: xs=>by
  have h1:=sizeV_le x;have h2:=sizesV_le xs;simp only [sizesV,szVs];omega
end
theorem sizesV_snoc:∀ {xs:List Val} {i:Nat} (h:i < xs.length),sizesV (xs.take (i+1))=sizesV (xs.take i)+sizeV (xs[i]'h)
 | x :: xs,0,_=>by simp [sizesV]
 | x :: xs,i+1,h=>by
  have:=sizesV_snoc (xs:=xs) (i:=i) (by simpa using h);simp only [List.take_succ_cons,sizesV,this,List.getElem_cons_succ];omega
theorem namesN_snoc:∀ {xs:List Str} {i:Nat} (h:i < xs.length),namesN (xs.take (i+1))=namesN (xs.take i)+textN (xs[i]'h)
 | x :: xs,0,_=>by simp [namesN]
 | x :: xs,i+1,h=>by
  have:=namesN_snoc (xs:=xs) (i:=i) (by simpa using h);simp only [List.take_succ_cons,namesN,this,List.getElem_cons_succ];omega
theorem sizesV_take (xs:List Val) (i:Nat):sizesV (xs.take i)≤sizesV xs:=by
 have h:∀ (ys zs:List Val),sizesV ys≤sizesV (ys++zs):=fun ys zs=>by
  induction ys with
  | nil=>simp [sizesV]
  | cons y ys ih=>simp only [List.cons_append,sizesV];omega
 have:=h (xs.take i) (xs.drop i)
 rwa [List.take_append_drop] at this
theorem namesN_take (xs:List Str) (i:Nat):namesN (xs.take i)≤namesN xs:=by
 have h:∀ (ys zs:List Str),namesN ys≤namesN (ys++zs):=fun ys zs=>by
  induction ys with
  | nil=>simp [namesN]
  | cons y ys ih=>simp only [List.cons_append,namesN];omega
 have:=h (xs.take i) (xs.drop i)
 rwa [List.take_append_drop] at this
theorem may_items {k i t xs ns} (h:mayV (.mk k i t xs ns)=true) {j:Nat} (hj:j < xs.length):mayV (xs[j]'hj)=true:=by
 rw [mayV,maysV_all] at h;simp only [Bool.and_eq_true] at h;exact List.all_eq_true.1 h.1.1 _ (List.getElem_mem hj)
theorem add_w {a b c:Nat} (h:a+b=c) (hb:c≤9223372036854775807):SV.d (.int .i64 (IntKind.i64.wrap ((a:Int)+(b:Int))))=SV.d (.int .i64 (c:Int)):=by
 rw [wrap_i64 (by omega) (by omega),← h];simp
theorem add_w1 {b c:Nat} (h:1+b=c) (hb:c≤9223372036854775807):SV.d (.int .i64 (IntKind.i64.wrap (1+(b:Int))))=SV.d (.int .i64 (c:Int)):=by
 rw [wrap_i64 (by omega) (by omega),← h];simp
theorem fn161:FnOk Tryz.prog 161 58 [2] (bodyOf Tryz.f161):=⟨Tryz.f161,Tryz.func161,by kernel_rfl,by decide,by kernel_rfl,by kernel_rfl⟩
theorem s161A (m:Nat):∀ v:Val,SizeOf.sizeOf v < m→mayV v=true→rngV v→szV v≤1099511627776→PSpec Tryz.prog 161 [.d (encV v)] (.d (.int .i64 (sizeV v:Int))):=by
 induction m with
 | zero=>intros;omega
 | succ m ih=>
  rintro ⟨kd,it,tx,xs,ns⟩ hv hmy hrg hsz;have hsz2:1+tx.length+szVs xs+szN ns≤1099511627776:=hsz;have hxl:=szVs_len xs;have hnl:=szN_len ns;have hs1:=sizesV_le xs;have hs2:=namesN_le ns;have hc1:=cntN_le xs.length;have hz1:=zig_le it;have ht1:=textN_le tx;have hln:=encVs_length xs;refine PSpec.of fn161 (by simp) fun o nk=>?_;refine wr ?_;refine u_step (g_box rfl fun o2 hb2 hk2=>?_);refine ua ?_;refine u_nil ?_;refine WP.seq fun K3 hK3=>?_;refine wr ?_;refine uf th27 th3 hb2 ?_;refine ul th3 hb2 ?_;refine u_nil ?_;refine WP.block ?_;refine wr ?_;refine ub ?_;refine ua ?_;refine u_nil ?_;refine wc (fun hc6=>?_) (fun hc6=>?_) <;> try simp only [Q0,Q1,Q2,Q3,Q4,Q5,Q6,Q7,Q8,ge_iff_le,gt_iff_lt] at hc6
  ·
   refine wr (ua (u_nil (WP.ret ?_)));refine ret_ok rfl ?_ (by omega) (fun t ht=>(hk2 t (by omega)));clear hK3;refine congrArg (D.int .i64) ?_;simp only [beq_iff_eq,beq_eq_false_iff_ne,ne_eq,Bool.or_eq_true,Bool.or_eq_false_iff] at hc6;have e0:textN tx=(grp (u64 tx.length)).length+tx.length:=rfl
   try rw [wrap_i64 (by first | omega | (rw [bytesD_length];omega)) (by first | omega | (rw [bytesD_length];omega))]
   try rw [bytesD_length]
   have h0:∀ i,¬ i < xs.length→xs.take i=xs:=fun i h=>List.take_of_length_le (by omega);have h0n:∀ i,¬ i < ns.length→ns.take i=ns:=fun i h=>List.take_of_length_le (by omega);simp only [sizeV]
   grind
  ·
   refine wr ?_;refine ub ?_;refine ua ?_;refine u_nil ?_;refine wc (fun hc9=>?_) (fun hc9=>?_) <;> try simp only [Q0,Q1,Q2,Q3,Q4,Q5,Q6,Q7,Q8,ge_iff_le,gt_iff_lt] at hc9
   ·
    refine wr (ua (u_nil (WP.ret ?_)));refine ret_ok rfl ?_ (by omega) (fun t ht=>(hk2 t (by omega)));clear hK3;refine congrArg (D.int .i64) ?_;simp only [beq_iff_eq,beq_eq_false_iff_ne,ne_eq,Bool.or_eq_true,Bool.or_eq_false_iff] at hc6 hc9;have e0:textN tx=(grp (u64 tx.length)).length+tx.length:=rfl
    try rw [wrap_i64 (by first | omega | (rw [bytesD_length];omega)) (by first | omega | (rw [bytesD_length];omega))]
    try rw [bytesD_length]
    have h0:∀ i,¬ i < xs.length→xs.take i=xs:=fun i h=>List.take_of_length_le (by omega);have h0n:∀ i,¬ i < ns.length→ns.take i=ns:=fun i h=>List.take_of_length_le (by omega);simp only [sizeV]
    grind
   ·
    refine wr ?_;refine ub ?_;refine ua ?_;refine u_nil ?_;refine wc (fun hc12=>?_) (fun hc12=>?_) <;> try simp only [Q0,Q1,Q2,Q3,Q4,Q5,Q6,Q7,Q8,ge_iff_le,gt_iff_lt] at hc12
    ·
     refine wr (uf th27 th3 hb2 ?_);refine ul th3 hb2 ?_;refine u_step (o_rcall (s169 it hrg.1.1 hrg.1.2) rfl fun q14 o14 nk14 hqa14 hqb14 hb14 hk14=>?_);have hb2_14:=(hk14 _ (by omega)).trans hb2;refine u_step (o_len_row rfl th52 rfl hb14 ?_);refine ub (ua (u_nil (WP.ret ?_)));refine ret_ok rfl ?_ (by omega) (fun t ht=>(hk14 t (by omega)).trans ((hk2 t (by omega))));clear hK3;refine congrArg (D.int .i64) ?_;simp only [beq_iff_eq,beq_eq_false_iff_ne,ne_eq,Bool.or_eq_true,Bool.or_eq_false_iff] at hc6 hc9 hc12;have e0:textN tx=(grp (u64 tx.length)).length+tx.length:=rfl
     try rw [wrap_i64 (by first | omega | (rw [bytesD_length];omega)) (by first | omega | (rw [bytesD_length];omega))]
     try rw [bytesD_length]
     have h0:∀ i,¬ i < xs.length→xs.take i=xs:=fun i h=>List.take_of_length_le (by omega);have h0n:∀ i,¬ i < ns.length→ns.take i=ns:=fun i h=>List.take_of_length_le (by omega);simp only [sizeV]
     grind
    ·
     refine WP.seqJ ⟨al [(1,.loc nk 0),(9,.d (.int .i64 kd)),(21,.d (.bool (kd == 4 || kd == 5)))],o2,(nk+1)⟩ ?_ ?_
     ·
      refine wr ?_;refine ub ?_;refine ua ?_;refine u_nil ?_;refine wc (fun hc16=>?_) (fun hc16=>?_) <;> try simp only [Q0,Q1,Q2,Q3,Q4,Q5,Q6,Q7,Q8,ge_iff_le,gt_iff_lt] at hc16
      ·
       refine WP.skip ?_;refine Le.al ?_;simp only [List.forall_mem_cons];refine ⟨rfl,rfl,?_,by simp⟩
       first | (show SV.d (.bool (kd == (4:Int)))=_;simp only [hc16,Bool.true_or]) | (show SV.d (.bool (kd == (5:Int)))=_;simp only [hc16,Bool.false_or])
      ·
       refine WP.reg tabOk rfl ?_;refine ub (ua (u_nil ?_));refine Le.al ?_;simp only [List.forall_mem_cons];refine ⟨rfl,rfl,?_,by simp⟩
       first | (show SV.d (.bool (kd == (4:Int)))=_;simp only [hc16,Bool.true_or]) | (show SV.d (.bool (kd == (5:Int)))=_;simp only [hc16,Bool.false_or])
     ·
      refine wc (fun hc17=>?_) (fun hc17=>?_) <;> try simp only [Q0,Q1,Q2,Q3,Q4,Q5,Q6,Q7,Q8,ge_iff_le,gt_iff_lt] at hc17
      ·
       refine wr (uf th27 th9 hb2 ?_);refine ul th9 hb2 ?_;refine u_step (o_pcall (s186 tx (by omega)) rfl ?_);refine ub (ua (u_nil (WP.ret ?_)));refine ret_ok rfl ?_ (by omega) (fun t ht=>(hk2 t (by omega)));clear hK3;refine congrArg (D.int .i64) ?_;simp only [beq_iff_eq,beq_eq_false_iff_ne,ne_eq,Bool.or_eq_true,Bool.or_eq_false_iff] at hc6 hc9 hc12 hc17;have e0:textN tx=(grp (u64 tx.length)).length+tx.length:=rfl
       try rw [wrap_i64 (by first | omega | (rw [bytesD_length];omega)) (by first | omega | (rw [bytesD_length];omega))]
       try rw [bytesD_length]
       have h0:∀ i,¬ i < xs.length→xs.take i=xs:=fun i h=>List.take_of_length_le (by omega);have h0n:∀ i,¬ i < ns.length→ns.take i=ns:=fun i h=>List.take_of_length_le (by omega);simp only [sizeV]
       grind
      ·
       refine WP.skip (hK3 _ (wr (uf th27 th25 hb2 ?_)));refine ul th25 hb2 ?_;refine un th25 ?_;refine u_step (o_pcall (s187 (encVs xs).length (by omega) (by omega)) rfl ?_);refine ub (ua (u_nil (WP.seq fun K20 hK20=>?_)));refine wr (uf th27 th25 hb2 ?_);refine ul th25 hb2 ?_;refine un th25 ?_;refine um (u_nil (WP.block ?_));refine WP.loopL (ι:=Nat×(Nat→Option AO)×Nat) (fun ⟨i,o2,nk2⟩=>⟨al [(1,.loc nk 0),(3,.d (.int .i64 (1+cntN xs.length+sizesV (xs.take i):Nat))),(34,.d (.sl 5 (encVs xs))),(35,.d (.int .i64 (encVs xs).length)),(36,.d (.int .i64 i))],o2,nk2⟩) (fun ⟨i,o2,nk2⟩=>i≤xs.length∧nk < nk2∧o2 nk=some (.box (([.int .i64 kd,.int .i64 it,.str tx,.sl 5 (encVs xs),.sl 1 (ns.map .str)]:List D).map .d))∧(∀ t,t < nk→o2 t=o t)) (fun ⟨i,o2,nk2⟩=>xs.length - i) (fun ⟨i,o2,nk2⟩ hA=>?_) ⟨0,o2,(nk+1)⟩ ?_ ?_
       ·
        obtain ⟨hle,hnk,hob,hfr⟩:=hA;refine wr ?_;refine ub ?_;refine u_nil ?_;refine WP.seq fun K23 hK23=>?_;refine wc (fun hc24=>?_) (fun hc24=>?_) <;> try simp only [Q0,Q1,Q2,Q3,Q4,Q5,Q6,Q7,Q8,ge_iff_le,gt_iff_lt] at hc24
        ·
         refine WP.skip (hK23 _ (WP.seq fun K25 hK25=>?_));refine WP.block (wr ?_)
         first | refine u_step (o_ia_map rfl rfl th25 rfl th27 rfl (by omega) ?_) | refine u_step (o_ia_vs rfl rfl th25 rfl th27 rfl (by omega) ?_)
         refine uL th27 ?_;refine u_step (g_alloc th27 rfl fun o27 hb27 hk27=>?_);have hob_27:=(hk27 _ (by omega)).trans hob;refine u_step0 (g_sta rfl (congrArg SV.d (encV_eq _)) th27 rfl hb27 (by simp [valCells]) fun o28 hb28 hk28=>?_);have hob_28:=(hk28 _ (by omega)).trans hob_27;refine u_nil (WP.reg tabOk rfl ?_);refine um (ug th27 hb28 ?_);refine u_step (o_pcall (pv (v:=xs[i]) (ih _ (by exact items_lt' (by omega) hv) (may_items hmy (by omega)) (rngVs_get hrg.2 (by omega)) (by have:=szVs_get (xs:=xs) (j:=i) (by omega);omega))) rfl ?_);refine ub (ua (u_nil (hK25 _ (WP.reg tabOk rfl ?_))));refine ub (um (u_nil ?_));have hsn:=sizesV_snoc (xs:=xs) (i:=i) (by omega);have hst:=sizesV_take xs (i+1);refine ⟨⟨i+1,o28,(nk2+1)⟩,⟨by omega,by omega,hob_28,(fun t ht=>(hk28 t (by omega)).trans ((hk27 t (by omega)).trans ((hfr t (by omega)))))⟩,by simp only;omega,?_⟩;refine Le.al ?_;simp only [List.forall_mem_cons];exact ⟨rfl,add_w (by omega) (by omega),rfl,rfl,cnt (by omega),by simp⟩
        ·
         refine WP.exit ?_;refine hK20 _ (WP.seq fun K29 hK29=>?_);refine wr (uf th27 th22 hob ?_);refine ul th22 hob ?_;refine un th22 ?_;refine um (u_nil (WP.block ?_));refine WP.loopL (ι:=Nat) (fun j=>⟨al [(3,.d (.int .i64 (1+cntN xs.length+sizesV xs+namesN (ns.take j):Nat))),(46,.d (.sl 1 (ns.map .str))),(47,.d (.int .i64 (ns.map D.str).length)),(48,.d (.int .i64 j))],o2,nk2⟩) (fun j=>j≤ns.length) (fun j=>ns.length - j) (fun j hA=>?_) 0 ?_ ?_
         ·
          refine wr ?_;refine ub ?_;refine u_nil ?_;refine WP.seq fun K32 hK32=>?_;refine wc (fun hc33=>?_) (fun hc33=>?_) <;> try simp only [Q0,Q1,Q2,Q3,Q4,Q5,Q6,Q7,Q8,ge_iff_le,gt_iff_lt] at hc33
          ·
           refine WP.skip (hK32 _ (WP.seq fun K34 hK34=>?_));refine WP.block (wr ?_)
           refine u_step (o_ia_map rfl rfl th22 rfl th9 rfl (by omega) ?_)
           refine uL th9 ?_;refine ua (u_nil (WP.reg tabOk rfl ?_));refine um (um ?_);refine u_step (o_pcall (s186 ns[j] (by have:=szN_get (xs:=ns) (j:=j) (by omega);omega)) rfl ?_);refine ub (ua (u_nil (hK34 _ (WP.reg tabOk rfl ?_))));refine ub (um (u_nil ?_));have hsn:=namesN_snoc (xs:=ns) (i:=j) (by omega);have hst:=namesN_take ns (j+1);refine ⟨j+1,by omega,by omega,?_⟩;refine Le.al ?_;simp only [List.forall_mem_cons];exact ⟨add_w (by simp only [textN] at *;omega) (by omega),rfl,rfl,cnt (by omega),by simp⟩
          ·
           refine WP.exit ?_;refine hK29 _ (wr (um (ua (u_nil (WP.ret ?_)))));refine ret_ok rfl ?_ (by omega) (fun t ht=>(hfr t (by omega)));clear hK3 hK20 hK23 hK29 hK32;refine congrArg (D.int .i64) ?_;simp only [beq_iff_eq,beq_eq_false_iff_ne,ne_eq,Bool.or_eq_true,Bool.or_eq_false_iff] at hc6 hc9 hc12 hc17 hc24 hc33;have e0:textN tx=(grp (u64 tx.length)).length+tx.length:=rfl
           try rw [wrap_i64 (by first | omega | (rw [bytesD_length];omega)) (by first | omega | (rw [bytesD_length];omega))]
           try rw [bytesD_length]
           have h0:∀ i,¬ i < xs.length→xs.take i=xs:=fun i h=>List.take_of_length_le (by omega);have h0n:∀ i,¬ i < ns.length→ns.take i=ns:=fun i h=>List.take_of_length_le (by omega);simp only [sizeV]
           grind
         ·
          omega
         ·
          refine Le.al ?_;simp only [List.forall_mem_cons];have h0:xs.take i=xs:=List.take_of_length_le (by omega);exact ⟨(by rw [h0,List.take_zero];simp [namesN];rfl),rfl,rfl,rfl,by simp⟩
       ·
        refine ⟨by simp,by omega,hb2,(fun t ht=>(hk2 t (by omega)))⟩
       ·
        refine Le.al ?_;simp only [List.forall_mem_cons];refine ⟨rfl,?_,rfl,rfl,rfl,by simp⟩;exact add_w1 (by simp only [cntN,List.take_zero,sizesV,hln];omega) (by simp only [List.take_zero,sizesV];omega)
theorem s161 (v:Val) (hmy:mayV v=true) (hrg:rngV v) (hsz:szV v≤1099511627776):PSpec Tryz.prog 161 [.d (encV v)] (.d (.int .i64 (sizeV v:Int))):=s161A _ v (Nat.lt_succ_self _) hmy hrg hsz
theorem may7 {i t xs ns} (h:mayV (.mk 7 i t xs ns)=true):ns.length=xs.length:=by
 simp [mayV,kindOk] at h;omega
theorem add_w2 {a b c d:Nat} (h:a+b+c=d) (hb:d≤9223372036854775807):SV.d (.int .i64 (IntKind.i64.wrap (IntKind.i64.wrap ((a:Int)+(b:Int))+(c:Int))))=SV.d (.int .i64 (d:Int)):=by
 rw [wrap_i64 (m:=(a:Int)+(b:Int)) (by omega) (by omega),wrap_i64 (by omega) (by omega),← h];simp
def accS (k:Int) (xs:List Val) (ns:List Str) (i:Nat):Nat:=(if k=6∨k=7 then 1+cntN xs.length else 1)+sizesV (xs.take i)+(if k=7 then namesN (ns.take i) else 0)
theorem accS_a {k:Int} {xs:List Val} {ns:List Str} {i:Nat} (h:i < xs.length) (h7:¬ k=7):accS k xs ns i+sizeV (xs[i]'h)=accS k xs ns (i+1):=by
 simp only [accS,if_neg h7,sizesV_snoc h];omega
theorem accS_b {k:Int} {xs:List Val} {ns:List Str} {i:Nat} (h:i < xs.length) (hn:i < ns.length) (h7:k=7):accS k xs ns i+sizeV (xs[i]'h)+textN (ns[i]'hn)=accS k xs ns (i+1):=by
 simp only [accS,if_pos h7,sizesV_snoc h,namesN_snoc hn];omega
theorem accS_le (k:Int) (xs:List Val) (ns:List Str) (i:Nat):accS k xs ns i≤11+12 * szVs xs+11 * szN ns:=by
 have h1:=sizesV_le xs;have h2:=namesN_le ns;have h3:=cntN_le xs.length;have h4:=sizesV_take xs i;have h5:=namesN_take ns i;unfold accS;split <;> split <;> omega
theorem accS_end {k i:Int} {t:Str} {xs:List Val} {ns:List Str} (hm:mayV (.mk k i t xs ns)=true) (h2:¬ k=2) (h3:¬ k=3) (h4:¬ (k=4∨k=5)):accS k xs ns xs.length=sizeV (.mk k i t xs ns):=by
 have hx:xs.take xs.length=xs:=List.take_length;simp only [accS,sizeV,hx];have hk:k=1∨k=6∨k=7:=by
  simp only [mayV,kindOk,Bool.and_eq_true] at hm;have:=hm.2;by_cases k=1 <;> by_cases k=6 <;> by_cases k=7 <;> simp_all
 rcases hk with rfl | rfl | rfl
 ·have:xs=[]:=by simp [mayV,kindOk] at hm;exact hm.2.1.2
  subst this;simp [sizesV]
 ·have:ns=[]:=by simp [mayV,kindOk] at hm;exact hm.2.2
  subst this;simp [namesN]
 ·have hl:=may7 hm;have:ns.take xs.length=ns:=by rw [← hl];exact List.take_length
  simp [this]
theorem fn117:FnOk Tryz.prog 117 62 [2] (bodyOf Tryz.f117):=⟨Tryz.f117,Tryz.func117,by kernel_rfl,by decide,by kernel_rfl,by kernel_rfl⟩
theorem s117A (m:Nat):∀ v:Val,SizeOf.sizeOf v < m→mayV v=true→rngV v→szV v≤1099511627776→PSpec Tryz.prog 117 [.d (encV v)] (.d (.int .i64 (sizeV v:Int))):=by
 induction m with
 | zero=>intros;omega
 | succ m ih=>
  rintro ⟨kd,it,tx,xs,ns⟩ hv hmy hrg hsz;have hsz2:1+tx.length+szVs xs+szN ns≤1099511627776:=hsz;have hxl:=szVs_len xs;have hnl:=szN_len ns;have hs1:=sizesV_le xs;have hs2:=namesN_le ns;have hc1:=cntN_le xs.length;have hz1:=zig_le it;have ht1:=textN_le tx;have hln:=encVs_length xs;refine PSpec.of fn117 (by simp) fun o nk=>?_;refine wr ?_;refine u_step (g_box rfl fun o2 hb2 hk2=>?_);refine ua ?_;refine u_nil ?_;refine wr ?_;refine ua ?_;refine u_nil ?_;refine WP.seq fun K4 hK4=>?_;refine wr ?_;refine uf th27 th3 hb2 ?_;refine ul th3 hb2 ?_;refine u_nil ?_;refine WP.block ?_;refine wr ?_;refine ub ?_;refine ua ?_;refine u_nil ?_;refine wc (fun hc7=>?_) (fun hc7=>?_) <;> try simp only [Q0,Q1,Q2,Q3,Q4,Q5,Q6,Q7,Q8,ge_iff_le,gt_iff_lt] at hc7
  ·
   refine wr (ua (u_nil (WP.ret ?_)));refine ret_ok rfl ?_ (by omega) (fun t ht=>(hk2 t (by omega)));clear hK4;refine congrArg (D.int .i64) ?_;simp only [beq_iff_eq,beq_eq_false_iff_ne,ne_eq,Bool.or_eq_true,Bool.or_eq_false_iff] at hc7;have e0:textN tx=(grp (u64 tx.length)).length+tx.length:=rfl
   try simp only [bytesD_length,List.length_append]
   try rw [wrap_i64 (by omega) (by omega)]
   try rw [bytesD_length]
   have h0:∀ i,¬ i < xs.length→xs.take i=xs:=fun i h=>List.take_of_length_le (by omega);have h0n:∀ i,¬ i < ns.length→ns.take i=ns:=fun i h=>List.take_of_length_le (by omega);simp only [sizeV]
   grind
  ·
   refine wr ?_;refine ub ?_;refine ua ?_;refine u_nil ?_;refine wc (fun hc10=>?_) (fun hc10=>?_) <;> try simp only [Q0,Q1,Q2,Q3,Q4,Q5,Q6,Q7,Q8,ge_iff_le,gt_iff_lt] at hc10
   ·
    refine wr (uf th27 th3 hb2 ?_);refine ul th3 hb2 ?_;refine u_step (o_rcall (s141 it hrg.1.1 hrg.1.2) rfl fun q12 o12 nk12 hqa12 hqb12 hb12 hk12=>?_);have hb2_12:=(hk12 _ (by omega)).trans hb2;refine u_step (o_len_row rfl th52 rfl hb12 ?_);refine ub (ua (u_nil (WP.ret ?_)));refine ret_ok rfl ?_ (by omega) (fun t ht=>(hk12 t (by omega)).trans ((hk2 t (by omega))));clear hK4;refine congrArg (D.int .i64) ?_;simp only [beq_iff_eq,beq_eq_false_iff_ne,ne_eq,Bool.or_eq_true,Bool.or_eq_false_iff] at hc7 hc10;have e0:textN tx=(grp (u64 tx.length)).length+tx.length:=rfl
    try simp only [bytesD_length,List.length_append]
    try rw [wrap_i64 (by omega) (by omega)]
    try rw [bytesD_length]
    have h0:∀ i,¬ i < xs.length→xs.take i=xs:=fun i h=>List.take_of_length_le (by omega);have h0n:∀ i,¬ i < ns.length→ns.take i=ns:=fun i h=>List.take_of_length_le (by omega);simp only [sizeV]
    grind
   ·
    refine WP.seqJ ⟨al [(1,.loc nk 0),(3,.d (.int .i64 1)),(6,.d (.int .i64 kd)),(16,.d (.bool (kd == 4 || kd == 5)))],o2,(nk+1)⟩ ?_ ?_
    ·
     refine wr ?_;refine ub ?_;refine ua ?_;refine u_nil ?_;refine wc (fun hc14=>?_) (fun hc14=>?_) <;> try simp only [Q0,Q1,Q2,Q3,Q4,Q5,Q6,Q7,Q8,ge_iff_le,gt_iff_lt] at hc14
     ·
      refine WP.skip ?_;refine Le.al ?_;simp only [List.forall_mem_cons];refine ⟨rfl,rfl,rfl,?_,by simp⟩
      first | (show SV.d (.bool (kd == (4:Int)))=_;simp only [hc14,Bool.true_or]) | (show SV.d (.bool (kd == (5:Int)))=_;simp only [hc14,Bool.false_or])
     ·
      refine WP.reg tabOk rfl ?_;refine ub (ua (u_nil ?_));refine Le.al ?_;simp only [List.forall_mem_cons];refine ⟨rfl,rfl,rfl,?_,by simp⟩
      first | (show SV.d (.bool (kd == (4:Int)))=_;simp only [hc14,Bool.true_or]) | (show SV.d (.bool (kd == (5:Int)))=_;simp only [hc14,Bool.false_or])
    ·
     refine wc (fun hc15=>?_) (fun hc15=>?_) <;> try simp only [Q0,Q1,Q2,Q3,Q4,Q5,Q6,Q7,Q8,ge_iff_le,gt_iff_lt] at hc15
     ·
      refine wr (uf th27 th9 hb2 ?_);refine ul th9 hb2 ?_;refine u_step (o_rcall (s89 tx (by omega)) rfl fun q17 o17 nk17 hqa17 hqb17 hb17 hk17=>?_);have hb2_17:=(hk17 _ (by omega)).trans hb2;refine u_step (o_len_row rfl th52 rfl hb17 ?_);refine ub (ua (u_nil (WP.ret ?_)));refine ret_ok rfl ?_ (by omega) (fun t ht=>(hk17 t (by omega)).trans ((hk2 t (by omega))));clear hK4;refine congrArg (D.int .i64) ?_;simp only [beq_iff_eq,beq_eq_false_iff_ne,ne_eq,Bool.or_eq_true,Bool.or_eq_false_iff] at hc7 hc10 hc15;have e0:textN tx=(grp (u64 tx.length)).length+tx.length:=rfl
      try simp only [bytesD_length,List.length_append]
      try rw [wrap_i64 (by omega) (by omega)]
      try rw [bytesD_length]
      have h0:∀ i,¬ i < xs.length→xs.take i=xs:=fun i h=>List.take_of_length_le (by omega);have h0n:∀ i,¬ i < ns.length→ns.take i=ns:=fun i h=>List.take_of_length_le (by omega);simp only [sizeV]
      grind
     ·
      refine WP.seqJ ⟨al [(1,.loc nk 0),(3,.d (.int .i64 1)),(6,.d (.int .i64 kd)),(24,.d (.bool (kd == 6 || kd == 7)))],o2,(nk+1)⟩ ?_ ?_
      ·
       refine wr ?_;refine ub ?_;refine ua ?_;refine u_nil ?_;refine wc (fun hc19=>?_) (fun hc19=>?_) <;> try simp only [Q0,Q1,Q2,Q3,Q4,Q5,Q6,Q7,Q8,ge_iff_le,gt_iff_lt] at hc19
       ·
        refine WP.skip ?_;refine Le.al ?_;simp only [List.forall_mem_cons];refine ⟨rfl,rfl,rfl,?_,by simp⟩
        first | (show SV.d (.bool (kd == (6:Int)))=_;simp only [hc19,Bool.true_or]) | (show SV.d (.bool (kd == (7:Int)))=_;simp only [hc19,Bool.false_or])
       ·
        refine WP.reg tabOk rfl ?_;refine ub (ua (u_nil ?_));refine Le.al ?_;simp only [List.forall_mem_cons];refine ⟨rfl,rfl,rfl,?_,by simp⟩
        first | (show SV.d (.bool (kd == (6:Int)))=_;simp only [hc19,Bool.true_or]) | (show SV.d (.bool (kd == (7:Int)))=_;simp only [hc19,Bool.false_or])
      ·
       refine wc (fun hc20=>?_) (fun hc20=>?_) <;> try simp only [Q0,Q1,Q2,Q3,Q4,Q5,Q6,Q7,Q8,ge_iff_le,gt_iff_lt] at hc20
       ·
        refine WP.reg tabOk rfl ?_;refine um (uf th27 th25 hb2 ?_);refine ul th25 hb2 ?_;refine un th25 ?_;refine u_step (o_rcall (s88 _) rfl fun q21 o21 nk21 hqa21 hqb21 hb21 hk21=>?_);have hb2_21:=(hk21 _ (by omega)).trans hb2;refine u_step (o_len_row rfl th52 rfl hb21 ?_);refine ub (ua (u_nil (hK4 _ (WP.seq fun K22 hK22=>?_))));refine wr (ua (u_nil (WP.block ?_)));refine WP.loopL (ι:=Nat×(Nat→Option AO)×Nat) (fun ⟨i,o2,nk2⟩=>⟨al [(1,.loc nk 0),(3,.d (.int .i64 (accS kd xs ns i:Nat))),(4,.d (.int .i64 i))],o2,nk2⟩) (fun ⟨i,o2,nk2⟩=>i≤xs.length∧nk < nk2∧o2 nk=some (.box (([.int .i64 kd,.int .i64 it,.str tx,.sl 5 (encVs xs),.sl 1 (ns.map .str)]:List D).map .d))∧(∀ t,t < nk→o2 t=o t)) (fun ⟨i,o2,nk2⟩=>xs.length - i) (fun ⟨i,o2,nk2⟩ hA=>?_) ⟨0,o21,nk21⟩ ?_ ?_
        ·
         obtain ⟨hle,hnk,hob,hfr⟩:=hA;refine WP.seq fun K24 hK24=>?_;refine wr ?_;refine um ?_;refine uf th27 th25 hob ?_;refine ul th25 hob ?_;refine un th25 ?_;refine ub ?_;refine u_nil ?_;refine wc (fun hc26=>?_) (fun hc26=>?_) <;> try simp only [Q0,Q1,Q2,Q3,Q4,Q5,Q6,Q7,Q8,ge_iff_le,gt_iff_lt] at hc26
         ·
          refine WP.skip (hK24 _ (WP.seq fun K27 hK27=>?_));refine WP.block (wr (um (uf th27 th25 hob ?_)));refine ul th25 hob ?_;refine um ?_
          first | refine u_step (o_ia_map rfl rfl th25 rfl th27 rfl (by omega) ?_) | refine u_step (o_ia_vs rfl rfl th25 rfl th27 rfl (by omega) ?_)
          refine uL th27 ?_;refine u_step (o_pcall (ih _ (by exact items_lt' (by omega) hv) (by exact may_items hmy (by omega)) (by exact rngVs_get hrg.2 (by omega)) (by have:=szVs_get (xs:=xs) (j:=i) (by omega);omega)) rfl ?_);refine ub ?_;refine ua ?_;refine u_nil ?_;refine wr ?_;refine uf th27 th3 hob ?_;refine ul th3 hob ?_;refine ub ?_;refine u_nil ?_;refine wc (fun hc30=>?_) (fun hc30=>?_) <;> try simp only [Q0,Q1,Q2,Q3,Q4,Q5,Q6,Q7,Q8,ge_iff_le,gt_iff_lt] at hc30
          ·
           have hk7:kd=7:=by simpa using hc30
           have hln7:ns.length=xs.length:=by subst hk7;exact may7 hmy
           have hni:=szN_get (xs:=ns) (j:=i) (by omega);have htn:=textN_le ns[i];refine WP.reg tabOk rfl ?_;refine um (uf th27 th22 hob ?_);refine ul th22 hob ?_;refine um ?_
           refine u_step (o_ia_map rfl rfl th22 rfl th9 rfl (by omega) ?_)
           refine uL th9 ?_;refine u_step (o_rcall (s89 _ (by have:=szN_get (xs:=ns) (j:=i) (by omega);omega)) rfl fun q31 o31 nk31 hqa31 hqb31 hb31 hk31=>?_);have hob_31:=(hk31 _ (by omega)).trans hob;refine u_step (o_len_row rfl th52 rfl hb31 ?_);refine ub (ua (u_nil (hK27 _ (WP.reg tabOk rfl ?_))));refine um (ub (ua (u_nil ?_)));have hal:=accS_le kd xs ns (i+1);refine ⟨⟨i+1,o31,nk31⟩,⟨by omega,by omega,hob_31,(fun t ht=>(hk31 t (by omega)).trans ((hfr t (by omega))))⟩,by simp only;omega,?_⟩;refine Le.al ?_;simp only [List.forall_mem_cons];refine ⟨rfl,?_,cnt (by omega),by simp⟩
           first | exact add_w2 (by rw [bytesD_length,List.length_append];exact accS_b (by omega) (by omega) hk7) (by omega) | exact add_w (accS_a (by omega) (by simpa using hc30)) (by omega)
          ·
           refine WP.skip (hK27 _ (WP.reg tabOk rfl ?_));refine um (ub (ua (u_nil ?_)));have hal:=accS_le kd xs ns (i+1);refine ⟨⟨i+1,o2,nk2⟩,⟨by omega,by omega,hob,(fun t ht=>(hfr t (by omega)))⟩,by simp only;omega,?_⟩;refine Le.al ?_;simp only [List.forall_mem_cons];refine ⟨rfl,?_,cnt (by omega),by simp⟩
           first | exact add_w2 (by rw [bytesD_length,List.length_append];exact accS_b (by omega) (by omega) hk7) (by omega) | exact add_w (accS_a (by omega) (by simpa using hc30)) (by omega)
         ·
          refine WP.exit ?_;refine hK22 _ (wr (um (ua (u_nil (WP.ret ?_)))));refine ret_ok rfl ?_ (by omega) (fun t ht=>(hfr t (by omega)));clear hK4 hK22 hK24;refine congrArg (D.int .i64) ?_;simp only [beq_iff_eq,beq_eq_false_iff_ne,ne_eq,Bool.or_eq_true,Bool.or_eq_false_iff] at hc7 hc10 hc15 hc20 hc26;have hi:i=xs.length:=by omega
          rw [hi];exact congrArg _ (accS_end hmy (by grind) (by grind) (by grind))
        ·
         refine ⟨by simp,by omega,hb2_21,(fun t ht=>(hk21 t (by omega)).trans ((hk2 t (by omega))))⟩
        ·
         refine Le.al ?_;simp only [List.forall_mem_cons];refine ⟨rfl,?_,rfl,by simp⟩
         first | exact add_w1 (by (have hk:kd=6∨kd=7:=(by simpa using hc20));(simp only [accS,if_pos hk,bytesD_length,hln,cntN,List.take_zero,sizesV,namesN]);(split <;> omega)) (by have:=accS_le kd xs ns 0;omega) | (have hk:¬ (kd=6∨kd=7):=(by simpa using hc20);show SV.d (.int .i64 1)=_;have h1:accS kd xs ns 0=1:=(by simp only [accS,if_neg hk,List.take_zero,sizesV,namesN];split <;> rfl);rw [h1];rfl)
       ·
        refine WP.skip (hK4 _ (WP.seq fun K33 hK33=>?_));refine wr (ua (u_nil (WP.block ?_)));refine WP.loopL (ι:=Nat×(Nat→Option AO)×Nat) (fun ⟨i,o2,nk2⟩=>⟨al [(1,.loc nk 0),(3,.d (.int .i64 (accS kd xs ns i:Nat))),(4,.d (.int .i64 i))],o2,nk2⟩) (fun ⟨i,o2,nk2⟩=>i≤xs.length∧nk < nk2∧o2 nk=some (.box (([.int .i64 kd,.int .i64 it,.str tx,.sl 5 (encVs xs),.sl 1 (ns.map .str)]:List D).map .d))∧(∀ t,t < nk→o2 t=o t)) (fun ⟨i,o2,nk2⟩=>xs.length - i) (fun ⟨i,o2,nk2⟩ hA=>?_) ⟨0,o2,(nk+1)⟩ ?_ ?_
        ·
         obtain ⟨hle,hnk,hob,hfr⟩:=hA;refine WP.seq fun K35 hK35=>?_;refine wr ?_;refine um ?_;refine uf th27 th25 hob ?_;refine ul th25 hob ?_;refine un th25 ?_;refine ub ?_;refine u_nil ?_;refine wc (fun hc37=>?_) (fun hc37=>?_) <;> try simp only [Q0,Q1,Q2,Q3,Q4,Q5,Q6,Q7,Q8,ge_iff_le,gt_iff_lt] at hc37
         ·
          refine WP.skip (hK35 _ (WP.seq fun K38 hK38=>?_));refine WP.block (wr (um (uf th27 th25 hob ?_)));refine ul th25 hob ?_;refine um ?_
          first | refine u_step (o_ia_map rfl rfl th25 rfl th27 rfl (by omega) ?_) | refine u_step (o_ia_vs rfl rfl th25 rfl th27 rfl (by omega) ?_)
          refine uL th27 ?_;refine u_step (o_pcall (ih _ (by exact items_lt' (by omega) hv) (by exact may_items hmy (by omega)) (by exact rngVs_get hrg.2 (by omega)) (by have:=szVs_get (xs:=xs) (j:=i) (by omega);omega)) rfl ?_);refine ub ?_;refine ua ?_;refine u_nil ?_;refine wr ?_;refine uf th27 th3 hob ?_;refine ul th3 hob ?_;refine ub ?_;refine u_nil ?_;refine wc (fun hc41=>?_) (fun hc41=>?_) <;> try simp only [Q0,Q1,Q2,Q3,Q4,Q5,Q6,Q7,Q8,ge_iff_le,gt_iff_lt] at hc41
          ·
           have hk7:kd=7:=by simpa using hc41
           have hln7:ns.length=xs.length:=by subst hk7;exact may7 hmy
           have hni:=szN_get (xs:=ns) (j:=i) (by omega);have htn:=textN_le ns[i];refine WP.reg tabOk rfl ?_;refine um (uf th27 th22 hob ?_);refine ul th22 hob ?_;refine um ?_
           refine u_step (o_ia_map rfl rfl th22 rfl th9 rfl (by omega) ?_)
           refine uL th9 ?_;refine u_step (o_rcall (s89 _ (by have:=szN_get (xs:=ns) (j:=i) (by omega);omega)) rfl fun q42 o42 nk42 hqa42 hqb42 hb42 hk42=>?_);have hob_42:=(hk42 _ (by omega)).trans hob;refine u_step (o_len_row rfl th52 rfl hb42 ?_);refine ub (ua (u_nil (hK38 _ (WP.reg tabOk rfl ?_))));refine um (ub (ua (u_nil ?_)));have hal:=accS_le kd xs ns (i+1);refine ⟨⟨i+1,o42,nk42⟩,⟨by omega,by omega,hob_42,(fun t ht=>(hk42 t (by omega)).trans ((hfr t (by omega))))⟩,by simp only;omega,?_⟩;refine Le.al ?_;simp only [List.forall_mem_cons];refine ⟨rfl,?_,cnt (by omega),by simp⟩
           first | exact add_w2 (by rw [bytesD_length,List.length_append];exact accS_b (by omega) (by omega) hk7) (by omega) | exact add_w (accS_a (by omega) (by simpa using hc41)) (by omega)
          ·
           refine WP.skip (hK38 _ (WP.reg tabOk rfl ?_));refine um (ub (ua (u_nil ?_)));have hal:=accS_le kd xs ns (i+1);refine ⟨⟨i+1,o2,nk2⟩,⟨by omega,by omega,hob,(fun t ht=>(hfr t (by omega)))⟩,by simp only;omega,?_⟩;refine Le.al ?_;simp only [List.forall_mem_cons];refine ⟨rfl,?_,cnt (by omega),by simp⟩
           first | exact add_w2 (by rw [bytesD_length,List.length_append];exact accS_b (by omega) (by omega) hk7) (by omega) | exact add_w (accS_a (by omega) (by simpa using hc41)) (by omega)
         ·
          refine WP.exit ?_;refine hK33 _ (wr (um (ua (u_nil (WP.ret ?_)))));refine ret_ok rfl ?_ (by omega) (fun t ht=>(hfr t (by omega)));clear hK4 hK33 hK35;refine congrArg (D.int .i64) ?_;simp only [beq_iff_eq,beq_eq_false_iff_ne,ne_eq,Bool.or_eq_true,Bool.or_eq_false_iff] at hc7 hc10 hc15 hc20 hc37;have hi:i=xs.length:=by omega
          rw [hi];exact congrArg _ (accS_end hmy (by grind) (by grind) (by grind))
        ·
         refine ⟨by simp,by omega,hb2,(fun t ht=>(hk2 t (by omega)))⟩
        ·
         refine Le.al ?_;simp only [List.forall_mem_cons];refine ⟨rfl,?_,rfl,by simp⟩
         first | exact add_w1 (by (have hk:kd=6∨kd=7:=(by simpa using hc20));(simp only [accS,if_pos hk,bytesD_length,hln,cntN,List.take_zero,sizesV,namesN]);(split <;> omega)) (by have:=accS_le kd xs ns 0;omega) | (have hk:¬ (kd=6∨kd=7):=(by simpa using hc20);show SV.d (.int .i64 1)=_;have h1:accS kd xs ns 0=1:=(by simp only [accS,if_neg hk,List.take_zero,sizesV,namesN];split <;> rfl);rw [h1];rfl)
theorem s117 (v:Val) (hmy:mayV v=true) (hrg:rngV v) (hsz:szV v≤1099511627776):PSpec Tryz.prog 117 [.d (encV v)] (.d (.int .i64 (sizeV v:Int))):=s117A _ v (Nat.lt_succ_self _) hmy hrg hsz
def checkV (v:Val):Int:=if mayV v=false then 20 else if 8 < depthV v then 21 else if 4096 < sizeV v then 22 else 0
theorem fn123:FnOk Tryz.prog 123 15 [2] (bodyOf Tryz.f123):=⟨Tryz.f123,Tryz.func123,by kernel_rfl,by decide,by kernel_rfl,by kernel_rfl⟩
theorem s123 (v:Val) (hrg:rngV v) (hsz:szV v≤1099511627776):PSpec Tryz.prog 123 [.d (encV v)] (.d (.int .i64 (checkV v))):=by
 obtain ⟨kd,it,tx,xs,ns⟩:=v;refine PSpec.of fn123 (by simp) fun o nk=>?_;refine wr ?_;refine u_step (g_box rfl fun o2 hb2 hk2=>?_);refine ua ?_;refine u_nil ?_;refine WP.seq fun K3 hK3=>?_;refine WP.block ?_;refine wr ?_;refine ug th27 hb2 ?_;refine u_step (o_pcall (s76 (.mk kd it tx xs ns)) rfl ?_);refine uN ?_;refine ua ?_;refine u_nil ?_;refine wc (fun hc5=>?_) (fun hc5=>?_) <;> try simp only [Q0,Q1,Q2,Q3,Q4,Q5,Q6,Q7,Q8,ge_iff_le,gt_iff_lt] at hc5
 ·
  refine wr (ua (u_nil (WP.ret ?_)));refine ret_ok rfl ?_ (by omega) (fun t ht=>(hk2 t (by omega)));clear hK3;refine congrArg (D.int .i64) ?_;simp only [checkV]
  grind
 ·
  refine wr ?_;refine ug th27 hb2 ?_;refine u_step (o_pcall (s160 (.mk kd it tx xs ns) hsz) rfl ?_);refine ub ?_;refine ua ?_;refine u_nil ?_;refine wc (fun hc8=>?_) (fun hc8=>?_) <;> try simp only [Q0,Q1,Q2,Q3,Q4,Q5,Q6,Q7,Q8,ge_iff_le,gt_iff_lt] at hc8
  ·
   refine wr (ua (u_nil (WP.ret ?_)));refine ret_ok rfl ?_ (by omega) (fun t ht=>(hk2 t (by omega)));clear hK3;refine congrArg (D.int .i64) ?_;simp only [checkV]
   grind
  ·
   refine wr ?_;refine ug th27 hb2 ?_;refine u_step (o_pcall (s161 (.mk kd it tx xs ns) (by assumption) hrg hsz) rfl ?_);refine ub ?_;refine ua ?_;refine u_nil ?_;refine wc (fun hc11=>?_) (fun hc11=>?_) <;> try simp only [Q0,Q1,Q2,Q3,Q4,Q5,Q6,Q7,Q8,ge_iff_le,gt_iff_lt] at hc11
   ·
    refine wr (ua (u_nil (WP.ret ?_)));refine ret_ok rfl ?_ (by omega) (fun t ht=>(hk2 t (by omega)));clear hK3;refine congrArg (D.int .i64) ?_;simp only [checkV]
    grind
   ·
    refine WP.skip (hK3 _ (wr (ua (u_nil (WP.ret ?_)))));refine ret_ok rfl ?_ (by omega) (fun t ht=>(hk2 t (by omega)));clear hK3;refine congrArg (D.int .i64) ?_;simp only [checkV]
    grind
theorem fn66:FnOk Tryz.prog 66 15 [2] (bodyOf Tryz.f66):=⟨Tryz.f66,Tryz.func66,by kernel_rfl,by decide,by kernel_rfl,by kernel_rfl⟩
theorem s66 (v:Val) (hrg:rngV v) (hsz:szV v≤1099511627776):PSpec Tryz.prog 66 [.d (encV v)] (.d (.int .i64 (checkV v))):=by
 obtain ⟨kd,it,tx,xs,ns⟩:=v;refine PSpec.of fn66 (by simp) fun o nk=>?_;refine wr ?_;refine u_step (g_box rfl fun o2 hb2 hk2=>?_);refine ua ?_;refine u_nil ?_;refine WP.seq fun K3 hK3=>?_;refine WP.block ?_;refine wr ?_;refine ug th27 hb2 ?_;refine u_step (o_pcall (s80 (.mk kd it tx xs ns)) rfl ?_);refine uN ?_;refine ua ?_;refine u_nil ?_;refine wc (fun hc5=>?_) (fun hc5=>?_) <;> try simp only [Q0,Q1,Q2,Q3,Q4,Q5,Q6,Q7,Q8,ge_iff_le,gt_iff_lt] at hc5
 ·
  refine wr (ua (u_nil (WP.ret ?_)));refine ret_ok rfl ?_ (by omega) (fun t ht=>(hk2 t (by omega)));clear hK3;refine congrArg (D.int .i64) ?_;simp only [checkV]
  grind
 ·
  refine wr ?_;refine ug th27 hb2 ?_;refine u_step (o_pcall (s116 (.mk kd it tx xs ns) hsz) rfl ?_);refine ub ?_;refine ua ?_;refine u_nil ?_;refine wc (fun hc8=>?_) (fun hc8=>?_) <;> try simp only [Q0,Q1,Q2,Q3,Q4,Q5,Q6,Q7,Q8,ge_iff_le,gt_iff_lt] at hc8
  ·
   refine wr (ua (u_nil (WP.ret ?_)));refine ret_ok rfl ?_ (by omega) (fun t ht=>(hk2 t (by omega)));clear hK3;refine congrArg (D.int .i64) ?_;simp only [checkV]
   grind
  ·
   refine wr ?_;refine ug th27 hb2 ?_;refine u_step (o_pcall (s117 (.mk kd it tx xs ns) (by assumption) hrg hsz) rfl ?_);refine ub ?_;refine ua ?_;refine u_nil ?_;refine wc (fun hc11=>?_) (fun hc11=>?_) <;> try simp only [Q0,Q1,Q2,Q3,Q4,Q5,Q6,Q7,Q8,ge_iff_le,gt_iff_lt] at hc11
   ·
    refine wr (ua (u_nil (WP.ret ?_)));refine ret_ok rfl ?_ (by omega) (fun t ht=>(hk2 t (by omega)));clear hK3;refine congrArg (D.int .i64) ?_;simp only [checkV]
    grind
   ·
    refine WP.skip (hK3 _ (wr (ua (u_nil (WP.ret ?_)))));refine ret_ok rfl ?_ (by omega) (fun t ht=>(hk2 t (by omega)));clear hK3;refine congrArg (D.int .i64) ?_;simp only [checkV]
    grind
def collV (s:Str):Bool:=decide (1≤s.length∧s.length≤32∧(36:UInt8) ∉ s∧(0:UInt8) ∉ s)
def noneV (v:Val):Bool:=decide (v.kind=0∧v.int=0∧v.text=[]∧v.items=[]∧v.names=[])
theorem same_iff {k k' i i':Int} {t t':Str} {xs ys:List Val} {ns ms:List Str}:sameV (.mk k i t xs ns) (.mk k' i' t' ys ms)=true↔k=k'∧i=i'∧t=t'∧xs=ys∧ns=ms:=by
 simp [sameV]
theorem same_refl (v:Val):sameV v v=true:=by simp [sameV]
theorem same_eq {v w:Val}:sameV v w=true↔v=w:=by simp [sameV]
theorem same_ne {v w:Val} (h:v≠w):sameV v w=false:=by simp [sameV,h]
theorem any_not {α:Type} (xs:List α) (p:α→Bool):(xs.any fun x=>!p x)=!xs.all p:=by
 induction xs with
 | nil=>rfl
 | cons x xs ih=>simp [ih,Bool.not_and]
theorem none_mk (k i:Int) (t:Str) (xs:List Val) (ns:List Str):noneV (.mk k i t xs ns)=decide (k=0∧i=0∧t=[]∧xs=[]∧ns=[]):=rfl
theorem none_same (v:Val):sameV v (.mk 0 0 [] [] [])=noneV v:=by
 cases v;rw [Bool.eq_iff_iff,same_iff,none_mk,decide_eq_true_eq]
theorem fn110:FnOk Tryz.prog 110 6 [2] (bodyOf Tryz.f110):=⟨Tryz.f110,Tryz.func110,by kernel_rfl,by decide,by kernel_rfl,by kernel_rfl⟩
theorem s110 (s:Str):PSpec Tryz.prog 110 [.d (.str s)] (.d (.bool (!nameV s))):=by
 refine PSpec.of fn110 (by simp) fun o nk=>?_;refine wr (ua (u_nil (wr (um ?_))));refine u_step (o_pcall (s111 _) rfl ?_);refine uN (ua (u_nil (WP.ret ?_)));refine ret_ok rfl ?_ (by omega) (fun _ _=>rfl);rfl
theorem fn56:FnOk Tryz.prog 56 18 [2] (bodyOf Tryz.f56):=⟨Tryz.f56,Tryz.func56,by kernel_rfl,by decide,by kernel_rfl,by kernel_rfl⟩
theorem s56 (ns:List Str):PSpec Tryz.prog 56 [.d (.sl 1 (ns.map .str))] (.d (.bool (pathV ns))):=by
 refine PSpec.of fn56 (by simp) fun o nk=>?_;refine wr (ua (u_nil (wr ?_)));refine u_step (o_assignV (v:=.clo _ _ _) rfl ?_);refine u_nil (wr (um (un th22 ?_)));refine ub (um ?_);apply gT
 ·rfl
 ·intro hg;exact pm
 apply gT
 ·rfl
 ·intro hg;try simp only [hg,ct,Bt]
  exact pn th22
 apply gT
 ·rfl
 ·intro hg;try simp only [hg,ct,Bt]
  exact pb
 refine uA (um ?_);apply gT
 ·rfl
 ·intro hg;exact pm
 apply gT
 ·rfl
 ·intro hg;refine o_moveV (v:=.clo _ _ _) rfl ⟨rfl,rfl,rfl⟩
 apply gT
 ·rfl
 ·intro hg;try simp only [hg,ct,Bt]
  refine o_scall (s112 ns 110 [] [] (fun s=>!nameV s) (fun x hx=>s110 x _ _)) rfl ⟨rfl,rfl,rfl⟩
 apply gT
 ·rfl
 ·intro hg;try simp only [hg,ct,Bt]
  exact pN
 refine uA (ua (u_nil (WP.ret ?_)));refine ret_ok rfl ?_ (by omega) (fun _ _=>rfl);refine congrArg D.bool ?_;rw [any_not,Bool.eq_iff_iff];simp [pathV]
 grind
theorem fn49:FnOk Tryz.prog 49 28 [2] (bodyOf Tryz.f49):=⟨Tryz.f49,Tryz.func49,by kernel_rfl,by decide,by kernel_rfl,by kernel_rfl⟩
theorem s49 (x:Str):PSpec Tryz.prog 49 [.d (.str x)] (.d (.bool (collV x))):=by
 refine PSpec.bd fun hbd=>?_;have hx:x.length≤9223372036854775807:=hbd.1;refine PSpec.of fn49 (by simp) fun o nk=>?_;refine wr (ua (u_nil (WP.seq fun K2 hK2=>?_)));refine wr (ua (u_nil (WP.block ?_)));refine WP.loopL (ι:=Nat) (fun i=>⟨al [(0,.d (.str x)),(3,.d (.int .i64 i))],o,nk⟩) (fun i=>i≤x.length∧(36:UInt8) ∉ x.take i∧(0:UInt8) ∉ x.take i) (fun i=>x.length - i) (fun i hA=>?_) 0 ?_ ?_
 ·
  obtain ⟨hle_i,hin_i⟩:=hA;refine WP.seq fun K4 hK4=>?_;refine wr ?_;refine um ?_;refine um ?_;refine u_step (o_len_str rfl th9 rfl ?_);refine ub ?_;refine u_nil ?_;refine wc (fun hc6=>?_) (fun hc6=>?_) <;> try simp only [Q0,Q1,Q2,Q3,Q4,Q5,Q6,Q7,Q8,ge_iff_le,gt_iff_lt] at hc6
  ·
   refine WP.skip (hK4 _ (WP.seq fun K7 hK7=>?_));refine WP.block (wr (um (um ?_)));refine u_step (o_ix rfl rfl th9 rfl ?_ ?_ ?_)
   ·exact Int.natCast_nonneg _
   ·simp;omega
   refine ub (um ?_);apply gF
   ·rfl
   ·intro hg;exact pm
   apply gF
   ·rfl
   ·intro hg;exact pm
   apply gF
   ·rfl
   ·intro hg;try simp only [hg,ct,Bt]
    have hg2:=hg;try simp only [Q0,Q1,Q2,Q3,Q4,Q5,Q6,Q9,Qa,Qb,Qc,Qd] at hg2
    refine o_ix rfl rfl th9 rfl ?_ ?_ ⟨rfl,rfl,rfl⟩
    ·exact Int.natCast_nonneg _
    ·simp;omega
   apply gF
   ·rfl
   ·intro hg;try simp only [hg,ct,Bt]
    exact pb
   refine uO ?_;refine u_nil ?_;refine wc (fun hc9=>?_) (fun hc9=>?_) <;> try simp only [Q0,Q1,Q2,Q3,Q4,Q5,Q6,Q7,Q8,ge_iff_le,gt_iff_lt] at hc9
   ·
    refine wr (ua (u_nil (WP.ret ?_)));refine ret_ok rfl ?_ (by omega) (fun _ _=>rfl);have he:=bAt_eq (l:=x) (i:=i) (by omega);have hb:=hc9;simp only [Int.toNat_natCast,he,Bool.or_eq_true,beq_iff_eq] at hb;have hm:=List.getElem_mem (l:=x) (n:=i) (by omega);refine congrArg D.bool ?_;rcases hb with hb | hb
    ·rw [(toNat_eq (n:=36) (by omega)).1 hb] at hm;simp at hm;simp [collV,hm]
    ·rw [(toNat_eq (n:=0) (by omega)).1 hb] at hm;simp at hm;simp [collV,hm]
   ·
    refine WP.skip (hK7 _ (WP.reg tabOk rfl ?_));refine um (ub (ua (u_nil ?_)));refine ⟨i+1,⟨by omega,?_⟩,by omega,?_⟩
    ·have hb:=Bool.or_eq_false_iff.1 hc9;have he:=bAt_eq (l:=x) (i:=i) (by omega);simp only [Int.toNat_natCast,he,beq_eq_false_iff_ne,ne_eq] at hb;rw [take_snoc (by omega)];simp only [List.mem_append,List.mem_singleton,not_or];refine ⟨⟨hin_i.1,fun e=>hb.1 (by rw [← e];rfl)⟩,⟨hin_i.2,fun e=>hb.2 (by rw [← e];rfl)⟩⟩
    ·refine Le.al ?_;simp only [List.forall_mem_cons];exact ⟨rfl,cnt (by omega),by simp⟩
  ·
   refine WP.exit ?_;refine hK2 _ (wr (um ?_));refine u_step (o_len_str rfl th9 rfl ?_);refine ub (um ?_);apply gT
   ·rfl
   ·intro hg;exact pm
   apply gT
   ·rfl
   ·intro hg;try simp only [hg,ct,Bt]
    refine o_len_str rfl th9 rfl ⟨rfl,rfl,rfl⟩
   apply gT
   ·rfl
   ·intro hg;try simp only [hg,ct,Bt]
    exact pb
   refine uA (ua (u_nil (WP.ret ?_)));refine ret_ok rfl ?_ (by omega) (fun _ _=>rfl);rw [List.take_of_length_le (by omega)] at hin_i;refine congrArg D.bool ?_;rw [Bool.eq_iff_iff];simp [collV,hin_i.1,hin_i.2];omega
 ·
  simp
 ·
  refine Le.al ?_;simp only [List.forall_mem_cons];exact ⟨rfl,rfl,by simp⟩
theorem fn100:FnOk Tryz.prog 100 12 [4] (bodyOf Tryz.f100):=⟨Tryz.f100,Tryz.func100,by kernel_rfl,by decide,by kernel_rfl,by kernel_rfl⟩
theorem s100 (a b:Int):PSpec Tryz.prog 100 [.d (.int .i64 a),.d (.int .i64 b)] (.d (.bool (decide (0≤a∧a≤b)))):=by
 refine PSpec.of fn100 (by simp) fun o nk=>?_;refine wr (ua (u_nil (wr (um (ub (um ?_))))));apply gT
 ·rfl
 ·intro hg;exact pm
 apply gT
 ·rfl
 ·intro hg;exact pm
 apply gT
 ·rfl
 ·intro hg;try simp only [hg,ct,Bt]
  exact pb
 refine uA (ua (u_nil (WP.ret ?_)));refine ret_ok rfl ?_ (by omega) (fun _ _=>rfl);refine congrArg D.bool ?_;rw [Bool.eq_iff_iff];simp
theorem fn147:FnOk Tryz.prog 147 26 [2] (bodyOf Tryz.f147):=⟨Tryz.f147,Tryz.func147,by kernel_rfl,by decide,by kernel_rfl,by kernel_rfl⟩
theorem s147 (v:Val) (hsz:szV v≤1099511627776):PSpec Tryz.prog 147 [.d (encV v)] (.d (.bool (noneV v))):=by
 obtain ⟨kd,it,tx,xs,ns⟩:=v;have hsz2:1+tx.length+szVs xs+szN ns≤1099511627776:=hsz;have hxl:=szVs_len xs;have hnl:=szN_len ns;refine PSpec.of fn147 (by simp) fun o nk=>?_;refine wr ?_;refine u_step (g_box rfl fun o2 hb2 hk2=>?_);refine ua (u_nil (wr (uf th27 th3 hb2 ?_)));refine ul th3 hb2 ?_;refine ub (um ?_);apply gT
 ·rfl
 ·intro hg;exact pf th27 th3 hb2
 apply gT
 ·rfl
 ·intro hg;try simp only [hg,ct,Bt]
  exact pl th3 hb2
 apply gT
 ·rfl
 ·intro hg;try simp only [hg,ct,Bt]
  exact pb
 refine uA (um ?_);apply gT
 ·rfl
 ·intro hg;exact pf th27 th9 hb2
 apply gT
 ·rfl
 ·intro hg;try simp only [hg,ct,Bt]
  exact pl th9 hb2
 apply gT
 ·rfl
 ·intro hg;try simp only [hg,ct,Bt]
  refine o_bin_str rfl (show _=SV.d (.str []) from rfl) rfl ⟨rfl,rfl,rfl⟩
 refine uA (um ?_);apply gT
 ·rfl
 ·intro hg;exact pf th27 th25 hb2
 apply gT
 ·rfl
 ·intro hg;try simp only [hg,ct,Bt]
  exact pl th25 hb2
 apply gT
 ·rfl
 ·intro hg;try simp only [hg,ct,Bt]
  exact pn th25
 apply gT
 ·rfl
 ·intro hg;exact pf th27 th22 hb2
 apply gT
 ·rfl
 ·intro hg;try simp only [hg,ct,Bt]
  exact pl th22 hb2
 apply gT
 ·rfl
 ·intro hg;try simp only [hg,ct,Bt]
  exact pn th22
 apply gT
 ·rfl
 ·intro hg;try simp only [hg,ct,Bt]
  exact pb
 apply gT
 ·rfl
 ·intro hg;try simp only [hg,ct,Bt]
  exact pb
 refine uA (ua (u_nil (WP.ret ?_)));refine ret_ok rfl ?_ (by omega) (fun t ht=>(hk2 t (by omega)))
 skip
 refine congrArg D.bool ?_;rw [wrap_i64 (by rw [encVs_length,List.length_map];omega) (by rw [encVs_length,List.length_map];omega),Bool.eq_iff_iff];rw [none_mk];simp only [Bool.and_eq_true,beq_iff_eq,decide_eq_true_eq,encVs_length,List.length_map];rw [← List.length_eq_zero_iff (l:=xs),← List.length_eq_zero_iff (l:=ns)]
 grind
theorem fn124:FnOk Tryz.prog 124 26 [2] (bodyOf Tryz.f124):=⟨Tryz.f124,Tryz.func124,by kernel_rfl,by decide,by kernel_rfl,by kernel_rfl⟩
theorem s124 (v:Val) (hsz:szV v≤1099511627776):PSpec Tryz.prog 124 [.d (encV v)] (.d (.bool (noneV v))):=by
 obtain ⟨kd,it,tx,xs,ns⟩:=v;have hsz2:1+tx.length+szVs xs+szN ns≤1099511627776:=hsz;have hxl:=szVs_len xs;have hnl:=szN_len ns;refine PSpec.of fn124 (by simp) fun o nk=>?_;refine wr ?_;refine u_step (g_box rfl fun o2 hb2 hk2=>?_);refine ua (u_nil (wr (uf th27 th3 hb2 ?_)));refine ul th3 hb2 ?_;refine ub (um ?_);apply gT
 ·rfl
 ·intro hg;exact pf th27 th3 hb2
 apply gT
 ·rfl
 ·intro hg;try simp only [hg,ct,Bt]
  exact pl th3 hb2
 apply gT
 ·rfl
 ·intro hg;try simp only [hg,ct,Bt]
  exact pb
 refine uA (um ?_);apply gT
 ·rfl
 ·intro hg;exact pf th27 th9 hb2
 apply gT
 ·rfl
 ·intro hg;try simp only [hg,ct,Bt]
  exact pl th9 hb2
 apply gT
 ·rfl
 ·intro hg;try simp only [hg,ct,Bt]
  refine o_bin_str rfl (show _=SV.d (.str []) from rfl) rfl ⟨rfl,rfl,rfl⟩
 refine uA (um ?_);apply gT
 ·rfl
 ·intro hg;exact pf th27 th25 hb2
 apply gT
 ·rfl
 ·intro hg;try simp only [hg,ct,Bt]
  exact pl th25 hb2
 apply gT
 ·rfl
 ·intro hg;try simp only [hg,ct,Bt]
  exact pn th25
 apply gT
 ·rfl
 ·intro hg;exact pf th27 th22 hb2
 apply gT
 ·rfl
 ·intro hg;try simp only [hg,ct,Bt]
  exact pl th22 hb2
 apply gT
 ·rfl
 ·intro hg;try simp only [hg,ct,Bt]
  exact pn th22
 apply gT
 ·rfl
 ·intro hg;try simp only [hg,ct,Bt]
  exact pb
 apply gT
 ·rfl
 ·intro hg;try simp only [hg,ct,Bt]
  exact pb
 refine uA (ua (u_nil (WP.ret ?_)));refine ret_ok rfl ?_ (by omega) (fun t ht=>(hk2 t (by omega)))
 skip
 refine congrArg D.bool ?_;rw [wrap_i64 (by rw [encVs_length,List.length_map];omega) (by rw [encVs_length,List.length_map];omega),Bool.eq_iff_iff];rw [none_mk];simp only [Bool.and_eq_true,beq_iff_eq,decide_eq_true_eq,encVs_length,List.length_map];rw [← List.length_eq_zero_iff (l:=xs),← List.length_eq_zero_iff (l:=ns)]
 grind
theorem fn30:FnOk Tryz.prog 30 81 [4] (bodyOf Tryz.f30):=⟨Tryz.f30,Tryz.func30,by kernel_rfl,by decide,by kernel_rfl,by kernel_rfl⟩
theorem s30A (m:Nat):∀ (v w:Val),SizeOf.sizeOf v < m→PSpec Tryz.prog 30 [.d (encV v),.d (encV w)] (.d (.bool (sameV v w))):=by
 induction m with
 | zero=>intros;omega
 | succ m ih=>
  rintro ⟨kd,it,tx,xs,ns⟩ ⟨kd2,it2,tx2,ys,ms⟩ hv;refine PSpec.bd fun hbd=>?_;have hx:xs.length≤9223372036854775807:=by simpa [encVs_length] using hbd.1.2.2.2.1.1
  have hx2:ns.length≤9223372036854775807:=by simpa using hbd.1.2.2.2.2.1.1
  refine PSpec.of fn30 (by simp) fun o nk=>?_;refine wr ?_;refine u_step (g_box rfl fun o2 hb2 hk2=>?_);refine u_step (g_box rfl fun o3 hb3 hk3=>?_);have hb2_3:=(hk3 _ (by omega)).trans hb2;refine ua (u_nil (WP.seq fun K4 hK4=>?_));refine wr (uf th27 th3 hb2_3 ?_);refine ul th3 hb2_3 ?_;refine uf th27 th3 hb3 ?_;refine ul th3 hb3 ?_;refine ub (um ?_);apply gF
  ·rfl
  ·intro hg;exact pf th27 th3 hb2_3
  apply gF
  ·rfl
  ·intro hg;try simp only [hg,ct,Bt]
   exact pl th3 hb2_3
  apply gF
  ·rfl
  ·intro hg;exact pf th27 th3 hb3
  apply gF
  ·rfl
  ·intro hg;try simp only [hg,ct,Bt]
   exact pl th3 hb3
  apply gF
  ·rfl
  ·intro hg;try simp only [hg,ct,Bt]
   exact pb
  refine uO (um ?_);apply gF
  ·rfl
  ·intro hg;exact pf th27 th9 hb2_3
  apply gF
  ·rfl
  ·intro hg;try simp only [hg,ct,Bt]
   exact pl th9 hb2_3
  apply gF
  ·rfl
  ·intro hg;exact pf th27 th9 hb3
  apply gF
  ·rfl
  ·intro hg;try simp only [hg,ct,Bt]
   exact pl th9 hb3
  apply gF
  ·rfl
  ·intro hg;try simp only [hg,ct,Bt]
   exact ps
  refine uO (um ?_);apply gF
  ·rfl
  ·intro hg;exact pf th27 th25 hb2_3
  apply gF
  ·rfl
  ·intro hg;try simp only [hg,ct,Bt]
   exact pl th25 hb2_3
  apply gF
  ·rfl
  ·intro hg;try simp only [hg,ct,Bt]
   exact pn th25
  apply gF
  ·rfl
  ·intro hg;exact pf th27 th25 hb3
  apply gF
  ·rfl
  ·intro hg;try simp only [hg,ct,Bt]
   exact pl th25 hb3
  apply gF
  ·rfl
  ·intro hg;try simp only [hg,ct,Bt]
   exact pn th25
  apply gF
  ·rfl
  ·intro hg;try simp only [hg,ct,Bt]
   exact pb
  refine uO (um ?_);apply gF
  ·rfl
  ·intro hg;exact pf th27 th22 hb2_3
  apply gF
  ·rfl
  ·intro hg;try simp only [hg,ct,Bt]
   exact pl th22 hb2_3
  apply gF
  ·rfl
  ·intro hg;try simp only [hg,ct,Bt]
   exact pn th22
  apply gF
  ·rfl
  ·intro hg;exact pf th27 th22 hb3
  apply gF
  ·rfl
  ·intro hg;try simp only [hg,ct,Bt]
   exact pl th22 hb3
  apply gF
  ·rfl
  ·intro hg;try simp only [hg,ct,Bt]
   exact pn th22
  apply gF
  ·rfl
  ·intro hg;try simp only [hg,ct,Bt]
   exact pb
  refine uO ?_;refine u_nil ?_;refine wc (fun hc6=>?_) (fun hc6=>?_) <;> try simp only [Q0,Q1,Q2,Q3,Q4,Q5,Q6,Q7,Q8,ge_iff_le,gt_iff_lt] at hc6
  ·
   refine wr (ua (u_nil (WP.ret ?_)));refine ret_ok rfl ?_ (by omega) (fun t ht=>(hk3 t (by omega)).trans ((hk2 t (by omega))));clear hK4;refine congrArg D.bool (same_ne ?_).symm;intro e;simp only [Val.mk.injEq] at e;obtain ⟨rfl,rfl,rfl,rfl,rfl⟩:=e;simp at hc6
  ·
   have hq:=hc6;simp [encVs_length] at hq;obtain ⟨⟨⟨⟨q1,q2⟩,q3⟩,q4⟩,q5⟩:=hq;refine WP.skip (hK4 _ (WP.seq fun K8 hK8=>?_));refine wr (ua (u_nil (WP.block ?_)));refine WP.loopL (ι:=Nat) (fun i=>⟨al [(2,.loc nk 0),(3,.loc (nk+1) 0),(5,.d (.int .i64 i))],o3,((nk+1)+1)⟩) (fun i=>i≤xs.length∧∀ (j:Nat) (hj:j < xs.length) (hk:j < ys.length),j < i→xs[j]=ys[j]) (fun i=>xs.length - i) (fun i hA=>?_) 0 ?_ ?_
   ·
    obtain ⟨hle_i,hin_i⟩:=hA;refine WP.seq fun K10 hK10=>?_;refine wr ?_;refine um ?_;refine uf th27 th25 hb2_3 ?_;refine ul th25 hb2_3 ?_;refine un th25 ?_;refine ub ?_;refine u_nil ?_;refine wc (fun hc12=>?_) (fun hc12=>?_) <;> try simp only [Q0,Q1,Q2,Q3,Q4,Q5,Q6,Q7,Q8,ge_iff_le,gt_iff_lt] at hc12
    ·
     refine WP.skip (hK10 _ (WP.seq fun K13 hK13=>?_));refine WP.block (wd ?_);refine df th27 th25 hb2_3 ?_;refine dl th25 hb2_3 ?_;refine dm ?_
     first | refine d_step (o_ia_map rfl rfl th25 rfl th27 rfl (by omega) ⟨rfl,rfl,rfl⟩) ?_ | refine d_step (o_ia_vs rfl rfl th25 rfl th27 rfl (by omega) ⟨rfl,rfl,rfl⟩) ?_
     refine dL th27 ?_;refine df th27 th25 hb3 ?_;refine dl th25 hb3 ?_;refine dm ?_
     first | refine d_step (o_ia_map rfl rfl th25 rfl th27 rfl (by omega) ⟨rfl,rfl,rfl⟩) ?_ | refine d_step (o_ia_vs rfl rfl th25 rfl th27 rfl (by omega) ⟨rfl,rfl,rfl⟩) ?_
     refine dL th27 ?_;refine d_step (o_pcall (ih _ _ (by exact items_lt' (by omega) hv)) rfl ⟨rfl,rfl,rfl⟩) ?_;refine dN ?_;refine d_nil ?_;refine wc (fun hc15=>?_) (fun hc15=>?_) <;> try simp only [Q0,Q1,Q2,Q3,Q4,Q5,Q6,Q7,Q8,ge_iff_le,gt_iff_lt] at hc15
     ·
      refine wr (ua (u_nil (WP.ret ?_)));refine ret_ok rfl ?_ (by omega) (fun t ht=>(hk3 t (by omega)).trans ((hk2 t (by omega))));clear hK4 hK8 hK10 hK13;refine congrArg D.bool (same_ne ?_).symm;intro e;simp only [Val.mk.injEq] at e;obtain ⟨rfl,rfl,rfl,rfl,rfl⟩:=e;rw [same_refl] at hc15;cases hc15
     ·
      refine WP.skip (hK13 _ (WP.reg tabOk rfl ?_));refine um (ub (ua (u_nil ?_)));refine ⟨i+1,⟨by omega,?_⟩,by omega,?_⟩
      ·intro j hj hk h1;by_cases h2:j=i
       ·subst h2;exact same_eq.1 (by simpa using hc15)
       ·exact hin_i j hj hk (by omega)
      ·refine Le.al ?_;simp only [List.forall_mem_cons];exact ⟨rfl,rfl,cnt (by omega),by simp⟩
    ·
     refine WP.exit ?_;refine hK8 _ (WP.seq fun K17 hK17=>?_);refine wr (ua (u_nil (WP.block ?_)));refine WP.loopL (ι:=Nat) (fun j=>⟨al [(2,.loc nk 0),(3,.loc (nk+1) 0),(6,.d (.int .i64 j))],o3,((nk+1)+1)⟩) (fun j=>j≤ns.length∧∀ (a:Nat) (hj:a < ns.length) (hk:a < ms.length),a < j→ns[a]=ms[a]) (fun j=>ns.length - j) (fun j hA=>?_) 0 ?_ ?_
     ·
      obtain ⟨hle_j,hin_j⟩:=hA;refine WP.seq fun K19 hK19=>?_;refine wr ?_;refine um ?_;refine uf th27 th22 hb2_3 ?_;refine ul th22 hb2_3 ?_;refine un th22 ?_;refine ub ?_;refine u_nil ?_;refine wc (fun hc21=>?_) (fun hc21=>?_) <;> try simp only [Q0,Q1,Q2,Q3,Q4,Q5,Q6,Q7,Q8,ge_iff_le,gt_iff_lt] at hc21
      ·
       refine WP.skip (hK19 _ (WP.seq fun K22 hK22=>?_));refine WP.block (wd ?_);refine df th27 th22 hb2_3 ?_;refine dl th22 hb2_3 ?_;refine dm ?_
       refine d_step (o_ia_map rfl rfl th22 rfl th9 rfl (by omega) ⟨rfl,rfl,rfl⟩) ?_
       refine dL th9 ?_;refine df th27 th22 hb3 ?_;refine dl th22 hb3 ?_;refine dm ?_
       refine d_step (o_ia_map rfl rfl th22 rfl th9 rfl (by omega) ⟨rfl,rfl,rfl⟩) ?_
       refine dL th9 ?_;refine ds ?_;refine d_nil ?_;refine wc (fun hc24=>?_) (fun hc24=>?_) <;> try simp only [Q0,Q1,Q2,Q3,Q4,Q5,Q6,Q7,Q8,ge_iff_le,gt_iff_lt] at hc24
       ·
        refine wr (ua (u_nil (WP.ret ?_)));refine ret_ok rfl ?_ (by omega) (fun t ht=>(hk3 t (by omega)).trans ((hk2 t (by omega))));clear hK4 hK8 hK10 hK17 hK19 hK22;refine congrArg D.bool (same_ne ?_).symm;intro e;simp only [Val.mk.injEq] at e;obtain ⟨rfl,rfl,rfl,rfl,rfl⟩:=e;simp at hc24
       ·
        refine WP.skip (hK22 _ (WP.reg tabOk rfl ?_));refine um (ub (ua (u_nil ?_)));refine ⟨j+1,⟨by omega,?_⟩,by omega,?_⟩
        ·intro a ha hk h1;by_cases h2:a=j
         ·subst h2;simpa using hc24
         ·exact hin_j a ha hk (by omega)
        ·refine Le.al ?_;simp only [List.forall_mem_cons];exact ⟨rfl,rfl,cnt (by omega),by simp⟩
      ·
       refine WP.exit ?_;refine hK17 _ (wr (ua (u_nil (WP.ret ?_))));refine ret_ok rfl ?_ (by omega) (fun t ht=>(hk3 t (by omega)).trans ((hk2 t (by omega))));have e1:xs=ys:=List.ext_getElem (by omega) fun j h1 h2=>hin_i j h1 h2 (by omega);have e2:ns=ms:=List.ext_getElem (by omega) fun j h1 h2=>hin_j j h1 h2 (by omega);rw [q1,q2,q3,e1,e2,same_refl]
     ·
      simp
     ·
      refine Le.al ?_;simp only [List.forall_mem_cons];exact ⟨rfl,rfl,rfl,by simp⟩
   ·
    simp
   ·
    refine Le.al ?_;simp only [List.forall_mem_cons];exact ⟨rfl,rfl,rfl,by simp⟩
theorem s30 (v w:Val):PSpec Tryz.prog 30 [.d (encV v),.d (encV w)] (.d (.bool (sameV v w))):=s30A _ v w (Nat.lt_succ_self _)
theorem fn65:FnOk Tryz.prog 65 6 [2] (bodyOf Tryz.f65):=⟨Tryz.f65,Tryz.func65,by kernel_rfl,by decide,by kernel_rfl,by kernel_rfl⟩
theorem s65 (v:Val):PSpec Tryz.prog 65 [.d (encV v)] (.d (.bool (noneV v))):=by
 obtain ⟨kd,it,tx,xs,ns⟩:=v;refine PSpec.of fn65 (by simp) fun o nk=>?_;refine wr ?_;refine u_step (g_box rfl fun o2 hb2 hk2=>?_);refine ua (u_nil (wr (ug th27 hb2 ?_)));refine u_step (o_bu rfl th27 rfl rfl ?_);refine u_step (o_pcall (PSpec.le (s30 (.mk kd it tx xs ns) (.mk 0 0 [] [] [])) (by refine ⟨D.le_refl _,?_,trivial⟩;show D.le (.agg [.int .i64 0,.int .i64 0,.str [],.nil,.nil]) (encV (.mk 0 0 [] [] []));simp [D.le,D.les,encV,encVs])) rfl ?_);refine ua (u_nil (WP.ret ?_));refine ret_ok rfl ?_ (by omega) (fun t ht=>(hk2 t (by omega)));rw [none_same]
theorem o_ia_mapG {P:Program} {Θ:Tab} {K:SV→(Nat→Option AO)→Nat→Prop} {sl:Nat→SV} {o:Nat→Option AO} {nk:Nat} {x ix:Operand} {t e:Nat} {α:Type} {i j:TI} {z:Nat} {xs:List α} {g:α→D} {k:IntKind} {m:Nat} (d0:α) (hx:ev sl x=.d (.sl z (xs.map g))) (hy:ev sl ix=.d (.int k (m:Int))) (hi:Θ t=some i) (hk:i.k=.slice e) (hj:Θ e=some j) (hz:z=j.sz) (hlt:m < xs.length) (h:K (.el (g (xs.getD m d0))) o nk):vOp P Θ (.indexAddr t x ix) ⟨sl,o,nk⟩ K:=by
 have hg:xs.getD m d0=xs[m]'hlt:=by simp [hlt]
 rw [hg] at h;exact o_ia_map hx hy hi hk hj hz hlt h
theorem begins_yes {a b:List Str} (hl:a.length≤b.length) (h:∀ (j:Nat) (hj:j < a.length) (hk:j < b.length),a[j]=b[j]):beginsV a b=true:=by
 unfold beginsV;rw [decide_eq_true_eq,List.prefix_iff_eq_take];refine List.ext_getElem (by simp;omega) fun j h1 h2=>?_;rw [List.getElem_take];exact h j h1 (by omega)
theorem begins_no {a b:List Str} {i:Nat} (h:i < a.length) (hb:b.length≤i∨∃ hk:i < b.length,a[i]≠b[i]):beginsV a b=false:=by
 unfold beginsV;rw [decide_eq_false_iff_not];intro hp;have hl:=hp.length_le;rcases hb with hb | ⟨hk,hb⟩
 ·omega
 ·exact hb (hp.getElem h)
theorem fn63:FnOk Tryz.prog 63 27 [4] (bodyOf Tryz.f63):=⟨Tryz.f63,Tryz.func63,by kernel_rfl,by decide,by kernel_rfl,by kernel_rfl⟩
theorem s63 (a b:List Str):PSpec Tryz.prog 63 [.d (.sl 1 (a.map .str)),.d (.sl 1 (b.map .str))] (.d (.bool (beginsV a b))):=by
 refine PSpec.bd fun hbd=>?_;have hx:a.length≤9223372036854775807:=by simpa using hbd.1.1
 refine PSpec.of fn63 (by simp) fun o nk=>?_;refine wr (ua (u_nil (WP.seq fun K2 hK2=>?_)));refine wr (ua (u_nil (WP.block ?_)));refine WP.loopL (ι:=Nat) (fun i=>⟨al [(0,.d (.sl 1 (a.map .str))),(1,.d (.sl 1 (b.map .str))),(5,.d (.int .i64 i))],o,nk⟩) (fun i=>i≤a.length∧i≤b.length∧∀ (j:Nat) (hj:j < a.length) (hk:j < b.length),j < i→a[j]=b[j]) (fun i=>a.length - i) (fun i hA=>?_) 0 ?_ ?_
 ·
  obtain ⟨hle_i,hin_i⟩:=hA;refine WP.seq fun K4 hK4=>?_;refine wr ?_;refine um ?_;refine um ?_;refine un th22 ?_;refine ub ?_;refine u_nil ?_;refine wc (fun hc6=>?_) (fun hc6=>?_) <;> try simp only [Q0,Q1,Q2,Q3,Q4,Q5,Q6,Q7,Q8,ge_iff_le,gt_iff_lt] at hc6
  ·
   refine WP.skip (hK4 _ (WP.seq fun K7 hK7=>?_));refine WP.block (wd ?_);refine dm ?_;refine dm ?_;refine dn th22 ?_;refine db ?_;refine dm ?_;apply d_guard
   ·exact GC.f _
   ·intro hg;exact pm
   apply d_guard
   ·exact GC.f _
   ·intro hg;exact pm
   apply d_guard
   ·exact GC.f _
   ·intro hg;try simp only [hg,ct,Bt]
    have hg2:=hg;try simp only [Q0,Q1,Q2,Q3,Q4,Q5,Q6,Q9,Qa,Qb,Qc,Qd] at hg2
    refine o_ia_map rfl rfl th22 rfl th9 rfl (by omega) ⟨rfl,rfl,rfl⟩
   apply d_guard
   ·exact GC.f _
   ·intro hg;try simp only [hg,ct,Bt]
    exact pL th9
   apply d_guard
   ·exact GC.f _
   ·intro hg;exact pm
   apply d_guard
   ·exact GC.f _
   ·intro hg;exact pm
   apply d_guard
   ·exact GC.f _
   ·intro hg;try simp only [hg,ct,Bt]
    have hg2:=hg;try simp only [Q0,Q1,Q2,Q3,Q4,Q5,Q6,Q9,Qa,Qb,Qc,Qd] at hg2
    refine o_ia_mapG (xs:=b) ([]:Str) rfl rfl th22 rfl th9 rfl (by omega) ⟨rfl,rfl,rfl⟩
   apply d_guard
   ·exact GC.f _
   ·intro hg;try simp only [hg,ct,Bt]
    exact pL th9
   apply d_guard
   ·exact GC.f _
   ·intro hg;try simp only [hg,ct,Bt]
    exact ps
   refine dO ?_;refine d_nil ?_;refine wc (fun hc9=>?_) (fun hc9=>?_) <;> try simp only [Q0,Q1,Q2,Q3,Q4,Q5,Q6,Q7,Q8,ge_iff_le,gt_iff_lt] at hc9
   ·
    refine wr (ua (u_nil (WP.ret ?_)));refine ret_ok rfl ?_ (by omega) (fun _ _=>rfl);rw [begins_no (by omega) ?_];by_cases hb:b.length≤i
    ·exact .inl hb
    ·have hk:i < b.length:=by omega
     exact .inr ⟨hk,by simpa [hb,hk] using hc9⟩
   ·
    refine WP.skip (hK7 _ (WP.reg tabOk rfl ?_));refine um (ub (ua (u_nil ?_)));refine ⟨i+1,⟨by omega,?_⟩,by omega,?_⟩
    ·have hq:=Bool.or_eq_false_iff.1 hc9;have hq1:¬ b.length≤i:=by simpa using hq.1
     refine ⟨by omega,fun j hj hk h1=>?_⟩;by_cases h2:j=i
     ·subst h2;simpa [hk] using hq.2
     ·exact hin_i.2 j hj hk (by omega)
    ·refine Le.al ?_;simp only [List.forall_mem_cons];exact ⟨rfl,rfl,cnt (by omega),by simp⟩
  ·
   refine WP.exit ?_;refine hK2 _ (wr (ua (u_nil (WP.ret ?_))));refine ret_ok rfl ?_ (by omega) (fun _ _=>rfl);rw [begins_yes (by omega) fun j hj hk=>hin_i.2 j hj hk (by omega)]
 ·
  simp
 ·
  refine Le.al ?_;simp only [List.forall_mem_cons];exact ⟨rfl,rfl,rfl,by simp⟩
theorem fn157:FnOk Tryz.prog 157 26 [4] (bodyOf Tryz.f157):=⟨Tryz.f157,Tryz.func157,by kernel_rfl,by decide,by kernel_rfl,by kernel_rfl⟩
theorem s157 (a b:List Str):PSpec Tryz.prog 157 [.d (.sl 1 (a.map .str)),.d (.sl 1 (b.map .str))] (.d (.bool (decide (a=b)))):=by
 refine PSpec.bd fun hbd=>?_;have hx:a.length≤9223372036854775807:=by simpa using hbd.1.1
 refine PSpec.of fn157 (by simp) fun o nk=>?_;refine wr ?_;refine ua ?_;refine u_nil ?_;refine WP.seq fun K2 hK2=>?_;refine wr ?_;refine um ?_;refine un th22 ?_;refine um ?_;refine un th22 ?_;refine ub ?_;refine u_nil ?_;refine wc (fun hc4=>?_) (fun hc4=>?_) <;> try simp only [Q0,Q1,Q2,Q3,Q4,Q5,Q6,Q7,Q8,ge_iff_le,gt_iff_lt] at hc4
 ·
  refine wr (ua (u_nil (WP.ret ?_)));refine ret_ok rfl ?_ (by omega) (fun _ _=>rfl);refine congrArg D.bool (Eq.symm (decide_eq_false fun e=>?_));subst e;simp at hc4
 ·
  have hl:a.length=b.length:=by simp at hc4;omega
  refine WP.skip (hK2 _ (WP.seq fun K6 hK6=>?_));refine wr (um (un th22 ?_));refine um (u_nil (WP.block ?_));refine WP.loopL (ι:=Nat) (fun i=>⟨al [(0,.d (.sl 1 (a.map .str))),(1,.d (.sl 1 (b.map .str))),(12,.d (.int .i64 (a.map D.str).length)),(13,.d (.int .i64 i))],o,nk⟩) (fun i=>i≤a.length∧∀ (j:Nat) (hj:j < a.length) (hk:j < b.length),j < i→a[j]=b[j]) (fun i=>a.length - i) (fun i hA=>?_) 0 ?_ ?_
  ·
   obtain ⟨hle_i,hin_i⟩:=hA;refine wr ?_;refine ub ?_;refine u_nil ?_;refine WP.seq fun K9 hK9=>?_;refine wc (fun hc10=>?_) (fun hc10=>?_) <;> try simp only [Q0,Q1,Q2,Q3,Q4,Q5,Q6,Q7,Q8,ge_iff_le,gt_iff_lt] at hc10
   ·
    refine WP.skip (hK9 _ (WP.seq fun K11 hK11=>?_));refine WP.block (wr (um (ua (u_nil (wd ?_)))));refine dm ?_;refine dm ?_
    refine d_step (o_ia_map rfl rfl th22 rfl th9 rfl (by omega) ⟨rfl,rfl,rfl⟩) ?_
    refine dL th9 ?_;refine dm ?_;refine dm ?_
    refine d_step (o_ia_map rfl rfl th22 rfl th9 rfl (by omega) ⟨rfl,rfl,rfl⟩) ?_
    refine dL th9 ?_;refine ds ?_;refine d_nil ?_;refine wc (fun hc14=>?_) (fun hc14=>?_) <;> try simp only [Q0,Q1,Q2,Q3,Q4,Q5,Q6,Q7,Q8,ge_iff_le,gt_iff_lt] at hc14
    ·
     refine wr (ua (u_nil (WP.ret ?_)));refine ret_ok rfl ?_ (by omega) (fun _ _=>rfl);refine congrArg D.bool (Eq.symm (decide_eq_false fun e=>?_));subst e;simp at hc14
    ·
     refine WP.skip (hK11 _ (WP.reg tabOk rfl ?_));refine ub (um (u_nil ?_));refine ⟨i+1,⟨by omega,?_⟩,by omega,?_⟩
     ·intro j hj hk h1;by_cases h2:j=i
      ·subst h2;simpa using hc14
      ·exact hin_i j hj hk (by omega)
     ·refine Le.al ?_;simp only [List.forall_mem_cons];exact ⟨rfl,rfl,rfl,cnt (by omega),by simp⟩
   ·
    refine WP.exit ?_;refine hK6 _ (wr (ua (u_nil (WP.ret ?_))));refine ret_ok rfl ?_ (by omega) (fun _ _=>rfl);refine congrArg D.bool (Eq.symm (decide_eq_true ?_));exact List.ext_getElem hl fun j h1 h2=>hin_i j h1 h2 (by omega)
  ·
   simp
  ·
   refine Le.al ?_;simp only [List.forall_mem_cons];exact ⟨rfl,rfl,rfl,rfl,by simp⟩
theorem fn91:FnOk Tryz.prog 91 15 [4] (bodyOf Tryz.f91):=⟨Tryz.f91,Tryz.func91,by kernel_rfl,by decide,by kernel_rfl,by kernel_rfl⟩
theorem s91 (a b:List Str):PSpec Tryz.prog 91 [.d (.sl 1 (a.map .str)),.d (.sl 1 (b.map .str))] (.d (.bool (decide (a=b)))):=by
 refine PSpec.of fn91 (by simp) fun o nk=>?_;refine wr (ua (u_nil (wr (um (un th22 ?_)))));refine um (un th22 ?_);refine ub (um ?_);apply gT
 ·rfl
 ·intro hg;exact pm
 apply gT
 ·rfl
 ·intro hg;exact pm
 apply gT
 ·rfl
 ·intro hg;try simp only [hg,ct,Bt]
  refine o_pcall (s63 _ _) rfl ⟨rfl,rfl,rfl⟩
 refine uA (ua (u_nil (WP.ret ?_)));refine ret_ok rfl ?_ (by omega) (fun _ _=>rfl);refine congrArg D.bool ?_;rw [Bool.eq_iff_iff];simp only [Bool.and_eq_true,beq_iff_eq,List.length_map,decide_eq_true_eq,beginsV];constructor
 ·rintro ⟨h1,h2⟩;exact h2.eq_of_length (by omega)
 ·rintro rfl;exact ⟨rfl,List.prefix_refl _⟩
theorem s157t (a b:List Str) (m:Nat):PSpec Tryz.prog 157 [.d (.sl 1 (a.map .str)),.d (.sl 1 (((b.map .str).take m).drop 0))] (.d (.bool (decide (a=b.take m)))):=by
 have:=s157 a (b.take m)
 rwa [List.map_take] at this
def meetV (a b:List Str):Bool:=beginsV a b || beginsV b a
theorem fn162:FnOk Tryz.prog 162 18 [4] (bodyOf Tryz.f162):=⟨Tryz.f162,Tryz.func162,by kernel_rfl,by decide,by kernel_rfl,by kernel_rfl⟩
theorem s162 (a b:List Str):PSpec Tryz.prog 162 [.d (.sl 1 (a.map .str)),.d (.sl 1 (b.map .str))] (.d (.bool (beginsV a b))):=by
 refine PSpec.of fn162 (by simp) fun o nk=>?_;refine wr (ua (u_nil (wr (um (un th22 ?_)))));refine um (un th22 ?_);refine ub (um ?_);apply gT
 ·rfl
 ·intro hg;exact pm
 apply gT
 ·rfl
 ·intro hg;exact pm
 apply gT
 ·rfl
 ·intro hg;exact pm
 apply gT
 ·rfl
 ·intro hg;try simp only [hg,ct,Bt]
  exact pn th22
 apply gT
 ·rfl
 ·intro hg;try simp only [hg,ct,Bt]
  have hg2:=hg;try simp only [Q0,Q1,Q2,Q3,Q4,Q5,Q6,Q9,Qa,Qb,Qc,Qd] at hg2
  refine o_sl_sl (m:=(a.map D.str).length) (p:=0) rfl th22 rfl th9 rfl (bnd_nat (by simp only [List.length_map];omega)) rfl ⟨rfl,rfl,rfl⟩
 apply gT
 ·rfl
 ·intro hg;try simp only [hg,ct,Bt]
  refine o_pcall (s157t a b _) rfl ⟨rfl,rfl,rfl⟩
 refine uA (ua (u_nil (WP.ret ?_)));refine ret_ok rfl ?_ (by omega) (fun _ _=>rfl);refine congrArg D.bool ?_;rw [Bool.eq_iff_iff];simp only [Bool.and_eq_true,decide_eq_true_eq,List.length_map,beginsV,List.prefix_iff_eq_take];constructor
 ·rintro ⟨_,h⟩;exact h
 ·intro h;refine ⟨?_,h⟩;have:=congrArg List.length h;simp at this;omega
theorem fn126:FnOk Tryz.prog 126 13 [4] (bodyOf Tryz.f126):=⟨Tryz.f126,Tryz.func126,by kernel_rfl,by decide,by kernel_rfl,by kernel_rfl⟩
theorem s126 (a b:List Str):PSpec Tryz.prog 126 [.d (.sl 1 (a.map .str)),.d (.sl 1 (b.map .str))] (.d (.bool (meetV a b))):=by
 refine PSpec.of fn126 (by simp) fun o nk=>?_;refine wr (ua (u_nil (wr (um (um ?_)))));refine u_step (o_pcall (s162 _ _) rfl ?_);refine um ?_;apply gF
 ·rfl
 ·intro hg;exact pm
 apply gF
 ·rfl
 ·intro hg;exact pm
 apply gF
 ·rfl
 ·intro hg;try simp only [hg,ct,Bt]
  refine o_pcall (s162 _ _) rfl ⟨rfl,rfl,rfl⟩
 refine uO (ua (u_nil (WP.ret ?_)));refine ret_ok rfl ?_ (by omega) (fun _ _=>rfl);rfl
def mayD (d:Dlt):Bool:=pathV d.path && (if d.kind=1 then decide (checkV d.value=0) && decide (d.n=0) else if d.kind=2 then noneV d.value && decide (d.n=0) else if d.kind=3 then noneV d.value && decide (0≤d.n) && decide (d.n≤999) else false)
def okD (d:Dlt):Prop:=rngV d.value∧szV d.value≤1099511627776
def checkD (l:List Dlt):Int:=if 64 < l.length then 3 else if l.all mayD then 0 else 1
theorem none_le (v:Val):SV.les [.d (.agg (valCells v)),.d (.agg [.int .i64 0,.int .i64 0,.str [],.nil,.nil])] [.d (encV v),.d (encV (.mk 0 0 [] [] []))]:=by
 refine ⟨?_,?_,trivial⟩
 ·show D.le (.agg (valCells v)) (encV v);rw [encV_eq];exact D.le_refl _
 ·show D.le (.agg [.int .i64 0,.int .i64 0,.str [],.nil,.nil]) (encV (.mk 0 0 [] [] []));simp [D.le,D.les,encV,encVs]
theorem s30n (v:Val):PSpec Tryz.prog 30 [.d (.agg (valCells v)),.d (.agg [.int .i64 0,.int .i64 0,.str [],.nil,.nil])] (.d (.bool (noneV v))):=by
 have:=PSpec.le (s30 v (.mk 0 0 [] [] [])) (none_le v)
 rwa [none_same] at this
theorem fn73:FnOk Tryz.prog 73 45 [2] (bodyOf Tryz.f73):=⟨Tryz.f73,Tryz.func73,by kernel_rfl,by decide,by kernel_rfl,by kernel_rfl⟩
theorem s73 (d:Dlt) (hd:okD d):PSpec Tryz.prog 73 [.d (encD d)] (.d (.bool (mayD d))):=by
 refine PSpec.of fn73 (by simp) fun o nk=>?_;refine wr ?_;refine u_step (g_box rfl fun o2 hb2 hk2=>?_);refine ua ?_;refine u_nil ?_;refine WP.seq fun K3 hK3=>?_;refine wr ?_;refine uf th83 th22 hb2 ?_;refine ul th22 hb2 ?_;refine u_step (o_pcall (s56 _) rfl ?_);refine uN ?_;refine u_nil ?_;refine wc (fun hc5=>?_) (fun hc5=>?_) <;> try simp only [Q0,Q1,Q2,Q3,Q4,Q5,Q6,Q7,Q8,ge_iff_le,gt_iff_lt] at hc5
 ·
  refine wr (ua (u_nil (WP.ret ?_)));refine ret_ok rfl ?_ (by omega) (fun t ht=>(hk2 t (by omega)));clear hK3;refine congrArg D.bool ?_;simp only [mayD]
  grind
 ·
  refine WP.skip ?_;refine hK3 _ ?_;refine WP.seq fun K7 hK7=>?_;refine wr ?_;refine uf th83 th3 hb2 ?_;refine ul th3 hb2 ?_;refine u_nil ?_;refine WP.block ?_;refine wr ?_;refine ub ?_;refine ua ?_;refine u_nil ?_;refine wc (fun hc10=>?_) (fun hc10=>?_) <;> try simp only [Q0,Q1,Q2,Q3,Q4,Q5,Q6,Q7,Q8,ge_iff_le,gt_iff_lt] at hc10
  ·
   refine wr (uf th83 th27 hb2 ?_);refine ug th27 hb2 ?_;refine u_step (o_pcall (pv (v:=d.value) (s123 d.value hd.1 hd.2)) rfl ?_);refine ub (um ?_);apply gT
   ·rfl
   ·intro hg;exact pf th83 th3 hb2
   apply gT
   ·rfl
   ·intro hg;try simp only [hg,ct,Bt]
    exact pl th3 hb2
   apply gT
   ·rfl
   ·intro hg;try simp only [hg,ct,Bt]
    exact pb
   refine uA (ua (u_nil (WP.ret ?_)));refine ret_ok rfl ?_ (by omega) (fun t ht=>(hk2 t (by omega)));clear hK3 hK7;refine congrArg D.bool ?_;simp only [mayD]
   grind
  ·
   refine wr ?_;refine ub ?_;refine ua ?_;refine u_nil ?_;refine wc (fun hc13=>?_) (fun hc13=>?_) <;> try simp only [Q0,Q1,Q2,Q3,Q4,Q5,Q6,Q7,Q8,ge_iff_le,gt_iff_lt] at hc13
   ·
    refine wr (uf th83 th27 hb2 ?_);refine ug th27 hb2 ?_;refine u_step (o_pcall (pv (v:=d.value) (s124 d.value hd.2)) rfl ?_);refine um ?_;apply gT
    ·rfl
    ·intro hg;exact pf th83 th3 hb2
    apply gT
    ·rfl
    ·intro hg;try simp only [hg,ct,Bt]
     exact pl th3 hb2
    apply gT
    ·rfl
    ·intro hg;try simp only [hg,ct,Bt]
     exact pb
    refine uA (ua (u_nil (WP.ret ?_)));refine ret_ok rfl ?_ (by omega) (fun t ht=>(hk2 t (by omega)));clear hK3 hK7;refine congrArg D.bool ?_;simp only [mayD]
    grind
   ·
    refine wr ?_;refine ub ?_;refine ua ?_;refine u_nil ?_;refine wc (fun hc16=>?_) (fun hc16=>?_) <;> try simp only [Q0,Q1,Q2,Q3,Q4,Q5,Q6,Q7,Q8,ge_iff_le,gt_iff_lt] at hc16
    ·
     refine wr (uf th83 th27 hb2 ?_);refine ug th27 hb2 ?_;refine u_step (o_pcall (pv (v:=d.value) (s124 d.value hd.2)) rfl ?_);refine um ?_;apply gT
     ·rfl
     ·intro hg;exact pf th83 th3 hb2
     apply gT
     ·rfl
     ·intro hg;try simp only [hg,ct,Bt]
      exact pl th3 hb2
     apply gT
     ·rfl
     ·intro hg;try simp only [hg,ct,Bt]
      exact pb
     refine uA (um ?_);apply gT
     ·rfl
     ·intro hg;exact pf th83 th3 hb2
     apply gT
     ·rfl
     ·intro hg;try simp only [hg,ct,Bt]
      exact pl th3 hb2
     apply gT
     ·rfl
     ·intro hg;try simp only [hg,ct,Bt]
      exact pb
     refine uA (ua (u_nil (WP.ret ?_)));refine ret_ok rfl ?_ (by omega) (fun t ht=>(hk2 t (by omega)));clear hK3 hK7;refine congrArg D.bool ?_;simp only [mayD]
     grind
    ·
     refine WP.skip (hK7 _ (wr (ua (u_nil (WP.ret ?_)))));refine ret_ok rfl ?_ (by omega) (fun t ht=>(hk2 t (by omega)));clear hK3 hK7;refine congrArg D.bool ?_;simp only [mayD]
     grind
theorem fn79:FnOk Tryz.prog 79 46 [2] (bodyOf Tryz.f79):=⟨Tryz.f79,Tryz.func79,by kernel_rfl,by decide,by kernel_rfl,by kernel_rfl⟩
theorem s79 (d:Dlt) (hd:okD d):PSpec Tryz.prog 79 [.d (encD d)] (.d (.bool (mayD d))):=by
 refine PSpec.of fn79 (by simp) fun o nk=>?_;refine wr ?_;refine u_step (g_box rfl fun o2 hb2 hk2=>?_);refine ua ?_;refine u_nil ?_;refine WP.seq fun K3 hK3=>?_;refine wr ?_;refine uf th83 th22 hb2 ?_;refine ul th22 hb2 ?_;refine u_step (o_pcall (s58 _) rfl ?_);refine uN ?_;refine u_nil ?_;refine wc (fun hc5=>?_) (fun hc5=>?_) <;> try simp only [Q0,Q1,Q2,Q3,Q4,Q5,Q6,Q7,Q8,ge_iff_le,gt_iff_lt] at hc5
 ·
  refine wr (ua (u_nil (WP.ret ?_)));refine ret_ok rfl ?_ (by omega) (fun t ht=>(hk2 t (by omega)));clear hK3;refine congrArg D.bool ?_;simp only [mayD]
  grind
 ·
  refine WP.skip ?_;refine hK3 _ ?_;refine wr ?_;refine uf th83 th27 hb2 ?_;refine ug th27 hb2 ?_;refine u_step (o_bu rfl th27 rfl rfl ?_);refine u_step (o_pcall (s30n d.value) rfl ?_);refine ua ?_;refine u_nil ?_;refine WP.seq fun K8 hK8=>?_;refine wr ?_;refine uf th83 th3 hb2 ?_;refine ul th3 hb2 ?_;refine u_nil ?_;refine WP.block ?_;refine wr ?_;refine ub ?_;refine ua ?_;refine u_nil ?_;refine wc (fun hc11=>?_) (fun hc11=>?_) <;> try simp only [Q0,Q1,Q2,Q3,Q4,Q5,Q6,Q7,Q8,ge_iff_le,gt_iff_lt] at hc11
  ·
   refine wr (uf th83 th27 hb2 ?_);refine ug th27 hb2 ?_;refine u_step (o_pcall (pv (v:=d.value) (s66 d.value hd.1 hd.2)) rfl ?_);refine ub (um ?_);apply gT
   ·rfl
   ·intro hg;exact pf th83 th3 hb2
   apply gT
   ·rfl
   ·intro hg;try simp only [hg,ct,Bt]
    exact pl th3 hb2
   apply gT
   ·rfl
   ·intro hg;try simp only [hg,ct,Bt]
    exact pb
   refine uA (ua (u_nil (WP.ret ?_)));refine ret_ok rfl ?_ (by omega) (fun t ht=>(hk2 t (by omega)));clear hK3 hK8;refine congrArg D.bool ?_;simp only [mayD]
   grind
  ·
   refine wr ?_;refine ub ?_;refine ua ?_;refine u_nil ?_;refine wc (fun hc14=>?_) (fun hc14=>?_) <;> try simp only [Q0,Q1,Q2,Q3,Q4,Q5,Q6,Q7,Q8,ge_iff_le,gt_iff_lt] at hc14
   ·
    refine wr (um (um ?_));apply gT
    ·rfl
    ·intro hg;exact pf th83 th3 hb2
    apply gT
    ·rfl
    ·intro hg;try simp only [hg,ct,Bt]
     exact pl th3 hb2
    apply gT
    ·rfl
    ·intro hg;try simp only [hg,ct,Bt]
     exact pb
    refine uA (ua (u_nil (WP.ret ?_)));refine ret_ok rfl ?_ (by omega) (fun t ht=>(hk2 t (by omega)));clear hK3 hK8;refine congrArg D.bool ?_;simp only [mayD]
    grind
   ·
    refine wr ?_;refine ub ?_;refine ua ?_;refine u_nil ?_;refine wc (fun hc17=>?_) (fun hc17=>?_) <;> try simp only [Q0,Q1,Q2,Q3,Q4,Q5,Q6,Q7,Q8,ge_iff_le,gt_iff_lt] at hc17
    ·
     refine wr (um (um ?_));apply gT
     ·rfl
     ·intro hg;exact pf th83 th3 hb2
     apply gT
     ·rfl
     ·intro hg;try simp only [hg,ct,Bt]
      exact pl th3 hb2
     apply gT
     ·rfl
     ·intro hg;try simp only [hg,ct,Bt]
      exact pb
     refine uA (um ?_);apply gT
     ·rfl
     ·intro hg;exact pf th83 th3 hb2
     apply gT
     ·rfl
     ·intro hg;try simp only [hg,ct,Bt]
      exact pl th3 hb2
     apply gT
     ·rfl
     ·intro hg;try simp only [hg,ct,Bt]
      exact pb
     refine uA (ua (u_nil (WP.ret ?_)));refine ret_ok rfl ?_ (by omega) (fun t ht=>(hk2 t (by omega)));clear hK3 hK8;refine congrArg D.bool ?_;simp only [mayD]
     grind
    ·
     refine WP.skip (hK8 _ (wr (ua (u_nil (WP.ret ?_)))));refine ret_ok rfl ?_ (by omega) (fun t ht=>(hk2 t (by omega)));clear hK3 hK8;refine congrArg D.bool ?_;simp only [mayD]
     grind
theorem fn122:FnOk Tryz.prog 122 6 [2] (bodyOf Tryz.f122):=⟨Tryz.f122,Tryz.func122,by kernel_rfl,by decide,by kernel_rfl,by kernel_rfl⟩
theorem s122 (d:Dlt) (hd:okD d):PSpec Tryz.prog 122 [.d (encD d)] (.d (.bool (!mayD d))):=by
 refine PSpec.of fn122 (by simp) fun o nk=>?_;refine wr ?_;refine u_step (g_box rfl fun o2 hb2 hk2=>?_);refine ua (u_nil (wr (ug th83 hb2 ?_)));refine u_step (o_pcall (s73 d hd) rfl ?_);refine uN (ua (u_nil (WP.ret ?_)));refine ret_ok rfl ?_ (by omega) (fun t ht=>(hk2 t (by omega)));rfl
theorem fn72:FnOk Tryz.prog 72 10 [2] (bodyOf Tryz.f72):=⟨Tryz.f72,Tryz.func72,by kernel_rfl,by decide,by kernel_rfl,by kernel_rfl⟩
theorem s72 (l:List Dlt) (hl:l.length≤64→∀ d∈l,okD d):PSpec Tryz.prog 72 [.d (.sl 8 (l.map encD))] (.d (.int .i64 (checkD l))):=by
 refine PSpec.of fn72 (by simp) fun o nk=>?_;refine wr ?_;refine ua ?_;refine u_nil ?_;refine WP.seq fun K2 hK2=>?_;refine WP.block ?_;refine wr ?_;refine um ?_;refine un th28 ?_;refine ub ?_;refine ua ?_;refine u_nil ?_;refine wc (fun hc4=>?_) (fun hc4=>?_) <;> try simp only [Q0,Q1,Q2,Q3,Q4,Q5,Q6,Q7,Q8,ge_iff_le,gt_iff_lt] at hc4
 ·
  refine wr (ua (u_nil (WP.ret ?_)));refine ret_ok rfl ?_ (by omega) (fun _ _=>rfl);clear hK2;refine congrArg (D.int .i64) ?_
  try simp only [any_not] at hc4
  simp only [checkD]
  grind
 ·
  refine wr ?_;refine um ?_;refine u_step (o_scall (s121 l 122 [] [] (fun d=>!mayD d) (fun x hx=>s122 x (hl (by omega) x hx) _ _)) rfl ?_);refine ua ?_;refine u_nil ?_;refine wc (fun hc7=>?_) (fun hc7=>?_) <;> try simp only [Q0,Q1,Q2,Q3,Q4,Q5,Q6,Q7,Q8,ge_iff_le,gt_iff_lt] at hc7
  ·
   refine wr (ua (u_nil (WP.ret ?_)));refine ret_ok rfl ?_ (by omega) (fun _ _=>rfl);clear hK2;refine congrArg (D.int .i64) ?_
   try simp only [any_not] at hc4 hc7
   simp only [checkD]
   grind
  ·
   refine WP.skip (hK2 _ (wr (ua (u_nil (WP.ret ?_)))));refine ret_ok rfl ?_ (by omega) (fun _ _=>rfl);clear hK2;refine congrArg (D.int .i64) ?_
   try simp only [any_not] at hc4 hc7
   simp only [checkD]
   grind
theorem fn31:FnOk Tryz.prog 31 19 [2] (bodyOf Tryz.f31):=⟨Tryz.f31,Tryz.func31,by kernel_rfl,by decide,by kernel_rfl,by kernel_rfl⟩
theorem s31 (l:List Dlt) (hl:l.length≤64→∀ d∈l,okD d):PSpec Tryz.prog 31 [.d (.sl 8 (l.map encD))] (.d (.int .i64 (checkD l))):=by
 refine PSpec.bd fun hbd=>?_;have hx:l.length≤9223372036854775807:=by simpa using hbd.1.1
 refine PSpec.of fn31 (by simp) fun o nk=>?_;refine wr ?_;refine ua ?_;refine u_nil ?_;refine WP.seq fun K2 hK2=>?_;refine wr ?_;refine um ?_;refine un th28 ?_;refine ub ?_;refine u_nil ?_;refine wc (fun hc4=>?_) (fun hc4=>?_) <;> try simp only [Q0,Q1,Q2,Q3,Q4,Q5,Q6,Q7,Q8,ge_iff_le,gt_iff_lt] at hc4
 ·
  refine wr (ua (u_nil (WP.ret ?_)));refine ret_ok rfl ?_ (by omega) (fun _ _=>rfl);refine congrArg (D.int .i64) ?_;simp only [checkD];clear hK2
  grind
 ·
  refine WP.skip (hK2 _ (WP.seq fun K6 hK6=>?_));refine wr (ua (u_nil (WP.block ?_)));refine WP.loopL (ι:=Nat) (fun i=>⟨al [(0,.d (.sl 8 (l.map encD))),(3,.d (.int .i64 i))],o,nk⟩) (fun i=>i≤l.length∧(l.take i).all mayD=true) (fun i=>l.length - i) (fun i hA=>?_) 0 ?_ ?_
  ·
   obtain ⟨hle_i,hin_i⟩:=hA;refine WP.seq fun K8 hK8=>?_;refine wr ?_;refine um ?_;refine um ?_;refine un th28 ?_;refine ub ?_;refine u_nil ?_;refine wc (fun hc10=>?_) (fun hc10=>?_) <;> try simp only [Q0,Q1,Q2,Q3,Q4,Q5,Q6,Q7,Q8,ge_iff_le,gt_iff_lt] at hc10
   ·
    refine WP.skip (hK8 _ (WP.seq fun K11 hK11=>?_));refine WP.block (wr (um (um ?_)))
    refine u_step (o_ia_map rfl rfl th28 rfl th83 rfl (by omega) ?_)
    refine uL th83 ?_;refine u_step (o_pcall (s79 l[i] (hl (by omega) _ (List.getElem_mem _))) rfl ?_);refine uN ?_;refine u_nil ?_;refine wc (fun hc13=>?_) (fun hc13=>?_) <;> try simp only [Q0,Q1,Q2,Q3,Q4,Q5,Q6,Q7,Q8,ge_iff_le,gt_iff_lt] at hc13
    ·
     refine wr (ua (u_nil (WP.ret ?_)));refine ret_ok rfl ?_ (by omega) (fun _ _=>rfl);have h1:=all_false (p:=mayD) (by omega:i < l.length) (by simpa using hc13);refine congrArg (D.int .i64) ?_;simp only [checkD,h1]
     grind
    ·
     refine WP.skip (hK11 _ (WP.reg tabOk rfl ?_));refine um (ub (ua (u_nil ?_)));refine ⟨i+1,⟨by omega,?_⟩,by omega,?_⟩
     ·rw [all_snoc (by omega),hin_i];simpa using hc13
     ·refine Le.al ?_;simp only [List.forall_mem_cons];exact ⟨rfl,cnt (by omega),by simp⟩
   ·
    refine WP.exit ?_;refine hK6 _ (wr (ua (u_nil (WP.ret ?_))));refine ret_ok rfl ?_ (by omega) (fun _ _=>rfl);have h1:=all_true (by omega) hin_i;refine congrArg (D.int .i64) ?_;simp only [checkD,h1]
    grind
  ·
   simp
  ·
   refine Le.al ?_;simp only [List.forall_mem_cons];exact ⟨rfl,rfl,by simp⟩
def touchD (l:List Dlt) (p:List Str):Bool:=l.any fun d=>meetV d.path p
theorem fn125:FnOk Tryz.prog 125 8 [3] (bodyOf Tryz.f125):=⟨Tryz.f125,Tryz.func125,by kernel_rfl,by decide,by kernel_rfl,by kernel_rfl⟩
theorem s125 (d:Dlt) (p:List Str) {o:Nat→Option AO} {nk k:Nat} (hkc:o k=some (.box [.d (.sl 1 (p.map .str))])) (hkl:k < nk):Spec Tryz.prog 125 [.d (encD d),.loc k 0] o nk (fun r' o' nk'=>r'=.d (.bool (meetV d.path p))∧o'=o∧nk'=nk):=by
 refine Spec.pure (fun _=>trivial) rfl (Spec.of_body fn125 (by simp) ?_);refine wr ?_;refine u_step (g_box rfl fun o2 hb2 hk2=>?_);have hkc_2:=(hk2 _ (by omega)).trans hkc;refine ua (u_nil (wr (uf th83 th22 hb2 ?_)));refine ul th22 hb2 ?_;refine ul th22 hkc_2 ?_;refine u_step (o_pcall (s126 _ _) rfl ?_);refine ua (u_nil (WP.ret ?_));refine ret_ok rfl ?_ (by omega) (fun t ht=>(hk2 t (by omega)));rfl
theorem fn74:FnOk Tryz.prog 74 8 [4] (bodyOf Tryz.f74):=⟨Tryz.f74,Tryz.func74,by kernel_rfl,by decide,by kernel_rfl,by kernel_rfl⟩
theorem s74 (l:List Dlt) (p:List Str):PSpec Tryz.prog 74 [.d (.sl 8 (l.map encD)),.d (.sl 1 (p.map .str))] (.d (.bool (touchD l p))):=by
 refine PSpec.of fn74 (by simp) fun o nk=>?_;refine wr ?_;refine u_step (g_box1 rfl rfl fun o2 hb2 hk2=>?_);refine ua (u_nil (wr (um ?_)));refine u_step (o_mf rfl rfl ?_);refine u_step (o_scall (s121 l 125 [] [.loc nk 0] (fun d=>meetV d.path p) (fun x hx=>s125 x p hb2 (by omega))) rfl ?_);refine ua (u_nil (WP.ret ?_));refine ret_ok rfl ?_ (by omega) (fun t ht=>(hk2 t (by omega)));rfl
def freeD (l:List Dlt):Bool:=decide (l.Pairwise fun a b=>meetV a.path b.path=false)
theorem meet_comm (a b:List Str):meetV a b=meetV b a:=by simp [meetV,Bool.or_comm]
theorem free_no {l:List Dlt} {i k:Nat} (hi:i < l.length) (hk:k < i) (h:meetV (l[k]'(by omega)).path (l[i]'hi).path=true):freeD l=false:=by
 unfold freeD;rw [decide_eq_false_iff_not];intro hp;have:=(List.pairwise_iff_getElem.1 hp) k i (by omega) hi hk;rw [h] at this;cases this
theorem free_yes {l:List Dlt} (h:∀ (a b:Nat) (ha:a < l.length) (hb:b < l.length),a < b→meetV l[a].path l[b].path=false):freeD l=true:=by
 unfold freeD;rw [decide_eq_true_eq];exact List.pairwise_iff_getElem.2 fun i j hi hj hij=>h i j hi hj hij
theorem fn118:FnOk Tryz.prog 118 40 [2] (bodyOf Tryz.f118):=⟨Tryz.f118,Tryz.func118,by kernel_rfl,by decide,by kernel_rfl,by kernel_rfl⟩
theorem s118 (l:List Dlt):PSpec Tryz.prog 118 [.d (.sl 8 (l.map encD))] (.d (.bool (freeD l))):=by
 refine PSpec.bd fun hbd=>?_;have hx:l.length≤9223372036854775807:=by simpa using hbd.1.1
 refine PSpec.of fn118 (by simp) fun o nk=>?_;refine wr (ua (u_nil (WP.seq fun K2 hK2=>?_)));refine wr (ua (u_nil (WP.block ?_)));refine WP.loopL (ι:=Nat) (fun i=>⟨al [(0,.d (.sl 8 (l.map encD))),(3,.d (.int .i64 i))],o,nk⟩) (fun i=>i≤l.length∧∀ (a b:Nat) (ha:a < l.length) (hb:b < l.length),a < b→b < i→meetV l[a].path l[b].path=false) (fun i=>l.length - i) (fun i hA=>?_) 0 ?_ ?_
 ·
  obtain ⟨hle_i,hin_i⟩:=hA;refine WP.seq fun K4 hK4=>?_;refine wr ?_;refine um ?_;refine um ?_;refine un th28 ?_;refine ub ?_;refine u_nil ?_;refine wc (fun hc6=>?_) (fun hc6=>?_) <;> try simp only [Q0,Q1,Q2,Q3,Q4,Q5,Q6,Q7,Q8,ge_iff_le,gt_iff_lt] at hc6
  ·
   refine WP.skip (hK4 _ (WP.seq fun K7 hK7=>?_));refine WP.block (wr (ua (u_nil (WP.block ?_))));refine WP.loopL (ι:=Nat) (fun j=>⟨al [(0,.d (.sl 8 (l.map encD))),(3,.d (.int .i64 i)),(4,.d (.int .i64 j))],o,nk⟩) (fun j=>j≤i∧∀ (a:Nat) (ha:a < l.length),a < j→meetV l[a].path l[i].path=false) (fun j=>i - j) (fun j hA=>?_) 0 ?_ ?_
   ·
    obtain ⟨hle_j,hin_j⟩:=hA;refine WP.seq fun K9 hK9=>?_;refine wr ?_;refine um ?_;refine um ?_;refine ub ?_;refine u_nil ?_;refine wc (fun hc11=>?_) (fun hc11=>?_) <;> try simp only [Q0,Q1,Q2,Q3,Q4,Q5,Q6,Q7,Q8,ge_iff_le,gt_iff_lt] at hc11
    ·
     refine WP.skip (hK9 _ (WP.seq fun K12 hK12=>?_));refine WP.block (wd ?_);refine dm ?_;refine dm ?_
     refine d_step (o_ia_map rfl rfl th28 rfl th83 rfl (by omega) ⟨rfl,rfl,rfl⟩) ?_
     refine dF th83 th22 ?_;refine dL th22 ?_;refine dm ?_;refine dm ?_
     refine d_step (o_ia_map rfl rfl th28 rfl th83 rfl (by omega) ⟨rfl,rfl,rfl⟩) ?_
     refine dF th83 th22 ?_;refine dL th22 ?_;refine d_step (o_pcall (s63 _ _) rfl ⟨rfl,rfl,rfl⟩) ?_;refine dm ?_;apply d_guard
     ·exact GC.f _
     ·intro hg;exact pm
     apply d_guard
     ·exact GC.f _
     ·intro hg;exact pm
     apply d_guard
     ·exact GC.f _
     ·intro hg;try simp only [hg,ct,Bt]
      have hg2:=hg;try simp only [Q0,Q1,Q2,Q3,Q4,Q5,Q6,Q9,Qa,Qb,Qc,Qd] at hg2
      refine o_ia_map rfl rfl th28 rfl th83 rfl (by omega) ⟨rfl,rfl,rfl⟩
     apply d_guard
     ·exact GC.f _
     ·intro hg;try simp only [hg,ct,Bt]
      exact pF th83 th22
     apply d_guard
     ·exact GC.f _
     ·intro hg;try simp only [hg,ct,Bt]
      exact pL th22
     apply d_guard
     ·exact GC.f _
     ·intro hg;exact pm
     apply d_guard
     ·exact GC.f _
     ·intro hg;exact pm
     apply d_guard
     ·exact GC.f _
     ·intro hg;try simp only [hg,ct,Bt]
      have hg2:=hg;try simp only [Q0,Q1,Q2,Q3,Q4,Q5,Q6,Q9,Qa,Qb,Qc,Qd] at hg2
      refine o_ia_map rfl rfl th28 rfl th83 rfl (by omega) ⟨rfl,rfl,rfl⟩
     apply d_guard
     ·exact GC.f _
     ·intro hg;try simp only [hg,ct,Bt]
      exact pF th83 th22
     apply d_guard
     ·exact GC.f _
     ·intro hg;try simp only [hg,ct,Bt]
      exact pL th22
     apply d_guard
     ·exact GC.f _
     ·intro hg;try simp only [hg,ct,Bt]
      refine o_pcall (s63 _ _) rfl ⟨rfl,rfl,rfl⟩
     refine dO ?_;refine d_nil ?_;refine wc (fun hc14=>?_) (fun hc14=>?_) <;> try simp only [Q0,Q1,Q2,Q3,Q4,Q5,Q6,Q7,Q8,ge_iff_le,gt_iff_lt] at hc14
     ·
      refine wr (ua (u_nil (WP.ret ?_)));refine ret_ok rfl ?_ (by omega) (fun _ _=>rfl);rw [free_no (i:=i) (k:=j) (by omega) (by omega) (by rw [meet_comm];exact hc14)]
     ·
      refine WP.skip (hK12 _ (WP.reg tabOk rfl ?_));refine um (ub (ua (u_nil ?_)));refine ⟨j+1,⟨by omega,?_⟩,by omega,?_⟩
      ·intro a ha h1;by_cases haj:a=j
       ·subst haj;rw [meet_comm];exact hc14
       ·exact hin_j a ha (by omega)
      ·refine Le.al ?_;simp only [List.forall_mem_cons];exact ⟨rfl,rfl,cnt (by omega),by simp⟩
    ·
     refine WP.exit ?_;refine hK7 _ (WP.reg tabOk rfl ?_);refine um (ub (ua (u_nil ?_)));refine ⟨i+1,⟨by omega,?_⟩,by omega,?_⟩
     ·intro a b ha hb h1 h2;by_cases hbi:b=i
      ·subst hbi;exact hin_j a ha (by omega)
      ·exact hin_i a b ha hb h1 (by omega)
     ·refine Le.al ?_;simp only [List.forall_mem_cons];exact ⟨rfl,cnt (by omega),by simp⟩
   ·
    simp
   ·
    refine Le.al ?_;simp only [List.forall_mem_cons];exact ⟨rfl,rfl,rfl,by simp⟩
  ·
   refine WP.exit ?_;refine hK2 _ (wr (ua (u_nil (WP.ret ?_))));refine ret_ok rfl ?_ (by omega) (fun _ _=>rfl);rw [free_yes fun a b ha hb h1=>hin_i a b ha hb h1 (by omega)]
 ·
  simp
 ·
  refine Le.al ?_;simp only [List.forall_mem_cons];exact ⟨rfl,rfl,by simp⟩
theorem s74t (l:List Dlt) (p:List Str) (m:Nat):PSpec Tryz.prog 74 [.d (.sl 8 (((l.map encD).take m).drop 0)),.d (.sl 1 (p.map .str))] (.d (.bool (touchD (l.take m) p))):=by
 have:=s74 (l.take m) p
 rwa [List.map_take] at this
theorem touch_yes {l:List Dlt} {i:Nat} {p:List Str} (h:touchD (l.take i) p=true):∃ (k:Nat) (hk:k < l.length),k < i∧meetV l[k].path p=true:=by
 obtain ⟨d,hd,h1⟩:=List.any_eq_true.1 h;obtain ⟨k,hk,he⟩:=List.mem_iff_getElem.1 hd;rw [List.getElem_take] at he;have hki:k < i∧k < l.length:=by simp at hk;omega
 exact ⟨k,hki.2,hki.1,by rw [he];exact h1⟩
theorem touch_no {l:List Dlt} {i:Nat} {p:List Str} (h:touchD (l.take i) p=false) {k:Nat} (hk:k < l.length) (hki:k < i):meetV l[k].path p=false:=by
 have h1:=List.any_eq_false.1 h (l[k]) (List.mem_iff_getElem.2 ⟨k,by simp;omega,by rw [List.getElem_take]⟩);simpa using h1
theorem fn71:FnOk Tryz.prog 71 19 [2] (bodyOf Tryz.f71):=⟨Tryz.f71,Tryz.func71,by kernel_rfl,by decide,by kernel_rfl,by kernel_rfl⟩
theorem s71 (l:List Dlt):PSpec Tryz.prog 71 [.d (.sl 8 (l.map encD))] (.d (.bool (freeD l))):=by
 refine PSpec.bd fun hbd=>?_;have hx:l.length≤9223372036854775807:=by simpa using hbd.1.1
 refine PSpec.of fn71 (by simp) fun o nk=>?_;refine wr (ua (u_nil (WP.seq fun K2 hK2=>?_)));refine wr (um (un th28 ?_));refine um (u_nil (WP.block ?_));refine WP.loopL (ι:=Nat×(Nat→Option AO)×Nat) (fun ⟨i,o2,nk2⟩=>⟨al [(0,.d (.sl 8 (l.map encD))),(5,.d (.sl 8 (l.map encD))),(6,.d (.int .i64 (l.map encD).length)),(7,.d (.int .i64 i))],o2,nk2⟩) (fun ⟨i,o2,nk2⟩=>i≤l.length∧nk≤nk2∧(∀ t,t < nk→o2 t=o t)∧∀ (a b:Nat) (ha:a < l.length) (hb:b < l.length),a < b→b < i→meetV (l[a]'ha).path (l[b]'hb).path=false) (fun ⟨i,o2,nk2⟩=>l.length - i) (fun ⟨i,o2,nk2⟩ hA=>?_) ⟨0,o,nk⟩ ?_ ?_
 ·
  obtain ⟨hle,hnk,hfr,hin⟩:=hA;refine wr ?_;refine ub ?_;refine u_nil ?_;refine WP.seq fun K5 hK5=>?_;refine wc (fun hc6=>?_) (fun hc6=>?_) <;> try simp only [Q0,Q1,Q2,Q3,Q4,Q5,Q6,Q7,Q8,ge_iff_le,gt_iff_lt] at hc6
  ·
   refine WP.skip (hK5 _ (WP.seq fun K7 hK7=>?_));refine WP.block (wr (um ?_))
   refine u_step (o_ia_map rfl rfl th28 rfl th83 rfl (by omega) ?_)
   refine uL th83 ?_;refine u_step (g_alloc th83 rfl fun o9 hb9 hk9=>?_);refine ua ?_;refine u_step0 (g_sta rfl rfl th83 rfl hb9 (by first | (simp;done) | (simp [D.leaves,D.width,valCells];done) | decide) fun o10 hb10 hk10=>?_);refine u_nil ?_;refine wd ?_;refine dm ?_;refine dm ?_;refine d_step (o_sl_sl (m:=i) (p:=0) rfl th28 rfl th83 rfl (bnd_nat (by simp only [List.length_map];omega)) rfl ⟨rfl,rfl,rfl⟩) ?_;refine df th83 th22 hb10 ?_;refine dl th22 hb10 ?_;refine d_step (o_pcall (s74t l l[i].path i) rfl ⟨rfl,rfl,rfl⟩) ?_;refine d_nil ?_;refine wc (fun hc12=>?_) (fun hc12=>?_) <;> try simp only [Q0,Q1,Q2,Q3,Q4,Q5,Q6,Q7,Q8,ge_iff_le,gt_iff_lt] at hc12
   ·
    refine wr (ua (u_nil (WP.ret ?_)));refine ret_ok rfl ?_ (by omega) (fun t ht=>(hk10 t (by omega)).trans ((hk9 t (by omega)).trans ((hfr t (by omega)))));obtain ⟨k,hk,hki,hm⟩:=touch_yes hc12;rw [free_no (i:=i) (k:=k) (by omega) hki hm]
   ·
    refine WP.skip (hK7 _ (WP.reg tabOk rfl ?_));refine ub (um (u_nil ?_));refine ⟨⟨i+1,o10,(nk2+1)⟩,⟨by omega,by omega,(fun t ht=>(hk10 t (by omega)).trans ((hk9 t (by omega)).trans ((hfr t (by omega))))),?_⟩,by simp only;omega,?_⟩
    ·intro a b ha hb h1 h2;by_cases hbi:b=i
     ·subst hbi;exact touch_no hc12 ha h1
     ·exact hin a b ha hb h1 (by omega)
    ·refine Le.al ?_;simp only [List.forall_mem_cons];exact ⟨rfl,rfl,rfl,cnt (by omega),by simp⟩
  ·
   refine WP.exit ?_;refine hK2 _ (wr (ua (u_nil (WP.ret ?_))));refine ret_ok rfl ?_ (by omega) (fun t ht=>(hfr t (by omega)));rw [free_yes fun a b ha hb h1=>hin a b ha hb h1 (by omega)]
 ·
  refine ⟨by simp,by omega,(fun _ _=>rfl),by simp⟩
 ·
  refine Le.al ?_;simp only [List.forall_mem_cons];exact ⟨rfl,rfl,rfl,rfl,by simp⟩
def cmpI (a b:Int):Int:=if a < b then -1 else if b < a then 1 else 0
def orI:List Int→Int
 | []=>0
 | x :: r=>if x=0 then orI r else x
theorem orI_at:∀ {l:List Int} {i:Nat} (h:i < l.length) (_:∀ x∈l.take i,x=0) (_:l[i]'h≠0),orI l=l[i]'h
 | x :: l,0,_,_,hn=>by simp only [orI,List.getElem_cons_zero] at *;rw [if_neg hn]
 | x :: l,i+1,h,hz,hn=>by
  have h0:x=0:=hz x (by simp);simp only [orI,if_pos h0,List.getElem_cons_succ];exact orI_at (by simpa using h) (fun y hy=>hz y (by simp [hy])) (by simpa using hn)
theorem orI_none:∀ {l:List Int},(∀ x∈l,x=0)→orI l=0
 | [],_=>rfl
 | x :: l,h=>by
  simp only [orI,if_pos (h x (by simp))];exact orI_none fun y hy=>h y (by simp [hy])
theorem fn210:FnOk Tryz.prog 210 6 [2] (bodyOf Tryz.f210):=⟨Tryz.f210,Tryz.func210,by kernel_rfl,by decide,by kernel_rfl,by kernel_rfl⟩
theorem s210 (x:Int):PSpec Tryz.prog 210 [.d (.int .i64 x)] (.d (.bool false)):=by
 refine PSpec.of fn210 (by simp) fun o nk=>?_;refine wr ?_;refine ua (u_nil (wr (um (um (ub (ua (u_nil (WP.ret ?_))))))));refine ret_ok rfl ?_ (by omega) (fun _ _=>rfl);simp
theorem fn206:FnOk Tryz.prog 206 20 [4] (bodyOf Tryz.f206):=⟨Tryz.f206,Tryz.func206,by kernel_rfl,by decide,by kernel_rfl,by kernel_rfl⟩
theorem s206 (a b:Int):PSpec Tryz.prog 206 [.d (.int .i64 a),.d (.int .i64 b)] (.d (.int .i64 (cmpI a b))):=by
 refine PSpec.of fn206 (by simp) fun o nk=>?_;refine wr ?_;refine ua ?_;refine u_nil ?_;refine wr ?_;refine um ?_;refine u_step (o_pcall (s210 _) rfl ?_);refine ua ?_;refine u_nil ?_;refine wr ?_;refine um ?_;refine u_step (o_pcall (s210 _) rfl ?_);refine ua ?_;refine u_nil ?_;refine WP.seq fun K4 hK4=>?_;refine wr ?_;refine um ?_;refine u_nil ?_;refine wc (fun hc6=>?_) (fun hc6=>?_) <;> try simp only [Q0,Q1,Q2,Q3,Q4,Q5,Q6,Q7,Q8,ge_iff_le,gt_iff_lt] at hc6
 ·
  cases hc6
 ·
  refine WP.skip ?_;refine hK4 _ ?_;refine WP.seq fun K7 hK7=>?_;refine wr ?_;refine um ?_;refine u_nil ?_;refine wc (fun hc9=>?_) (fun hc9=>?_) <;> try simp only [Q0,Q1,Q2,Q3,Q4,Q5,Q6,Q7,Q8,ge_iff_le,gt_iff_lt] at hc9
  ·
   cases hc9
  ·
   refine WP.skip ?_;refine hK7 _ ?_;refine WP.seq fun K10 hK10=>?_;refine wr ?_;refine um ?_;refine um ?_;refine ub ?_;refine u_nil ?_;refine wc (fun hc12=>?_) (fun hc12=>?_) <;> try simp only [Q0,Q1,Q2,Q3,Q4,Q5,Q6,Q7,Q8,ge_iff_le,gt_iff_lt] at hc12
   ·
    refine wr (ua (u_nil (WP.ret ?_)));refine ret_ok rfl ?_ (by omega) (fun _ _=>rfl);refine congrArg (D.int .i64) ?_;simp only [cmpI];clear hK4 hK7 hK10
    grind
   ·
    refine WP.skip ?_;refine hK10 _ ?_;refine WP.seq fun K14 hK14=>?_;refine wr ?_;refine um ?_;refine um ?_;refine ub ?_;refine u_nil ?_;refine wc (fun hc16=>?_) (fun hc16=>?_) <;> try simp only [Q0,Q1,Q2,Q3,Q4,Q5,Q6,Q7,Q8,ge_iff_le,gt_iff_lt] at hc16
    ·
     refine wr (ua (u_nil (WP.ret ?_)));refine ret_ok rfl ?_ (by omega) (fun _ _=>rfl);refine congrArg (D.int .i64) ?_;simp only [cmpI];clear hK4 hK7 hK10 hK14
     grind
    ·
     refine WP.skip (hK14 _ (wr (ua (u_nil (WP.ret ?_)))));refine ret_ok rfl ?_ (by omega) (fun _ _=>rfl);refine congrArg (D.int .i64) ?_;simp only [cmpI];clear hK4 hK7 hK10 hK14
     grind
theorem fn205:FnOk Tryz.prog 205 18 [2] (bodyOf Tryz.f205):=⟨Tryz.f205,Tryz.func205,by kernel_rfl,by decide,by kernel_rfl,by kernel_rfl⟩
theorem s205 (l:List Int):PSpec Tryz.prog 205 [.d (.sl 1 (l.map (D.int .i64)))] (.d (.int .i64 (orI l))):=by
 refine PSpec.bd fun hbd=>?_;have hx:l.length≤9223372036854775807:=by simpa using hbd.1.1
 refine PSpec.of fn205 (by simp) fun o nk=>?_;refine wr (ua (u_nil (wr (ua (u_nil (WP.seq fun K3 hK3=>?_))))));refine wr (um (un th37 ?_));refine um (u_nil (WP.block ?_));refine WP.loopL (ι:=Nat) (fun i=>⟨al [(3,.d (.int .i64 0)),(6,.d (.sl 1 (l.map (D.int .i64)))),(7,.d (.int .i64 (l.map (D.int .i64)).length)),(8,.d (.int .i64 i))],o,nk⟩) (fun i=>i≤l.length∧∀ x∈l.take i,x=0) (fun i=>l.length - i) (fun i hA=>?_) 0 ?_ ?_
 ·
  obtain ⟨hle_i,hin_i⟩:=hA;refine wr ?_;refine ub ?_;refine u_nil ?_;refine WP.seq fun K6 hK6=>?_;refine wc (fun hc7=>?_) (fun hc7=>?_) <;> try simp only [Q0,Q1,Q2,Q3,Q4,Q5,Q6,Q7,Q8,ge_iff_le,gt_iff_lt] at hc7
  ·
   refine WP.skip (hK6 _ (WP.seq fun K8 hK8=>?_));refine WP.block (wr ?_)
   refine u_step (o_ia_map rfl rfl th37 rfl th3 rfl (by omega) ?_)
   refine uL th3 ?_;refine ua ?_;refine u_nil ?_;refine wr ?_;refine um ?_;refine um ?_;refine ub ?_;refine u_nil ?_;refine wc (fun hc11=>?_) (fun hc11=>?_) <;> try simp only [Q0,Q1,Q2,Q3,Q4,Q5,Q6,Q7,Q8,ge_iff_le,gt_iff_lt] at hc11
   ·
    refine wr (um (ua (u_nil (WP.ret ?_))));refine ret_ok rfl ?_ (by omega) (fun _ _=>rfl);rw [orI_at (by omega) hin_i (by simpa using hc11)]
   ·
    refine WP.skip (hK8 _ (WP.reg tabOk rfl ?_));refine ub (um (u_nil ?_));refine ⟨i+1,⟨by omega,?_⟩,by omega,?_⟩
    ·rw [List.take_succ_eq_append_getElem (by omega)];intro x hx;rcases List.mem_append.1 hx with h | h
     ·exact hin_i x h
     ·simp only [List.mem_singleton] at h;subst h;simpa using hc11
    ·refine Le.al ?_;simp only [List.forall_mem_cons];exact ⟨rfl,rfl,rfl,cnt (by omega),by simp⟩
  ·
   refine WP.exit ?_;refine hK3 _ (wr (um (ua (u_nil (WP.ret ?_)))));refine ret_ok rfl ?_ (by omega) (fun _ _=>rfl);rw [orI_none fun x hx=>hin_i x (by rwa [List.take_of_length_le (by omega)])]
 ·
  simp
 ·
  refine Le.al ?_;simp only [List.forall_mem_cons];exact ⟨rfl,rfl,rfl,rfl,by simp⟩
def idxS (ns:List Str) (s:Str):Int:=firstI (fun x=>decide (s=x)) ns
theorem fn183:FnOk Tryz.prog 183 19 [4] (bodyOf Tryz.f183):=⟨Tryz.f183,Tryz.func183,by kernel_rfl,by decide,by kernel_rfl,by kernel_rfl⟩
theorem s183 (ns:List Str) (s:Str):PSpec Tryz.prog 183 [.d (.sl 1 (ns.map .str)),.d (.str s)] (.d (.int .i64 (idxS ns s))):=by
 refine PSpec.bd fun hbd=>?_;have hx:ns.length≤9223372036854775807:=by simpa using hbd.1.1
 refine PSpec.of fn183 (by simp) fun o nk=>?_;refine wr (ua (u_nil (WP.seq fun K2 hK2=>?_)));refine wr (um (un th22 ?_));refine um (u_nil (WP.block ?_));refine WP.loopL (ι:=Nat) (fun i=>⟨al [(0,.d (.sl 1 (ns.map .str))),(1,.d (.str s)),(7,.d (.int .i64 (ns.map D.str).length)),(8,.d (.int .i64 i))],o,nk⟩) (fun i=>i≤ns.length∧∀ (j:Nat) (hj:j < ns.length),j < i→decide (s=ns[j])=false) (fun i=>ns.length - i) (fun i hA=>?_) 0 ?_ ?_
 ·
  obtain ⟨hle_i,hin_i⟩:=hA;refine wr ?_;refine ub ?_;refine u_nil ?_;refine WP.seq fun K5 hK5=>?_;refine wc (fun hc6=>?_) (fun hc6=>?_) <;> try simp only [Q0,Q1,Q2,Q3,Q4,Q5,Q6,Q7,Q8,ge_iff_le,gt_iff_lt] at hc6
  ·
   refine WP.skip (hK5 _ (WP.seq fun K7 hK7=>?_));refine WP.block (wr (um (ua (u_nil (wr (um (um (um ?_))))))))
   refine u_step (o_ia_map rfl rfl th22 rfl th9 rfl (by omega) ?_)
   refine uL th9 ?_;refine us ?_;refine u_nil ?_;refine wc (fun hc10=>?_) (fun hc10=>?_) <;> try simp only [Q0,Q1,Q2,Q3,Q4,Q5,Q6,Q7,Q8,ge_iff_le,gt_iff_lt] at hc10
   ·
    refine wr (um (ua (u_nil (WP.ret ?_))));refine ret_ok rfl ?_ (by omega) (fun _ _=>rfl);rw [idxS,firstI_at (p:=fun x=>decide (s=x)) (xs:=ns) (i:=i) (by omega) (decide_eq_true hc10) hin_i]
   ·
    refine WP.skip (hK7 _ (WP.reg tabOk rfl ?_));refine ub (um (u_nil ?_));refine ⟨i+1,⟨by omega,?_⟩,by omega,?_⟩
    ·intro j hj h1;by_cases h2:j=i
     ·subst h2;exact decide_eq_false hc10
     ·exact hin_i j hj (by omega)
    ·refine Le.al ?_;simp only [List.forall_mem_cons];exact ⟨rfl,rfl,rfl,cnt (by omega),by simp⟩
  ·
   refine WP.exit ?_;refine hK2 _ (wr (ua (u_nil (WP.ret ?_))));refine ret_ok rfl ?_ (by omega) (fun _ _=>rfl);rw [idxS,firstI_none (p:=fun x=>decide (s=x)) (xs:=ns) fun j hj=>hin_i j hj (by omega)]
 ·
  simp
 ·
  refine Le.al ?_;simp only [List.forall_mem_cons];exact ⟨rfl,rfl,rfl,rfl,by simp⟩
theorem fn155:FnOk Tryz.prog 155 18 [4] (bodyOf Tryz.f155):=⟨Tryz.f155,Tryz.func155,by kernel_rfl,by decide,by kernel_rfl,by kernel_rfl⟩
theorem s155 (v:Val) (p:List Str):PSpec Tryz.prog 155 [.d (encV v),.d (.sl 1 (p.map .str))] (.d (.int .i64 (if v.kind≠7∨mayV v=false then 20 else if pathV p then 0 else 40))):=by
 obtain ⟨kd,it,tx,xs,ns⟩:=v;refine PSpec.of fn155 (by simp) fun o nk=>?_;refine wr ?_;refine u_step (g_box rfl fun o2 hb2 hk2=>?_);refine ua (u_nil (WP.seq fun K3 hK3=>?_));refine WP.block (wr (uf th27 th3 hb2 ?_));refine ul th3 hb2 ?_;refine ub (um ?_);apply gF
 ·rfl
 ·intro hg;exact pg th27 hb2
 apply gF
 ·rfl
 ·intro hg;try simp only [hg,ct,Bt]
  refine o_pcall (s76 (.mk kd it tx xs ns)) rfl ⟨rfl,rfl,rfl⟩
 apply gF
 ·rfl
 ·intro hg;try simp only [hg,ct,Bt]
  exact pN
 refine uO ?_;refine ua ?_;refine u_nil ?_;refine wc (fun hc5=>?_) (fun hc5=>?_) <;> try simp only [Q0,Q1,Q2,Q3,Q4,Q5,Q6,Q7,Q8,ge_iff_le,gt_iff_lt] at hc5
 ·
  refine wr (ua (u_nil (WP.ret ?_)));refine ret_ok rfl ?_ (by omega) (fun t ht=>(hk2 t (by omega)));clear hK3;refine congrArg (D.int .i64) ?_;simp only [Val.kind]
  grind
 ·
  refine wr ?_;refine um ?_;refine u_step (o_pcall (s56 _) rfl ?_);refine uN ?_;refine ua ?_;refine u_nil ?_;refine wc (fun hc8=>?_) (fun hc8=>?_) <;> try simp only [Q0,Q1,Q2,Q3,Q4,Q5,Q6,Q7,Q8,ge_iff_le,gt_iff_lt] at hc8
  ·
   refine wr (ua (u_nil (WP.ret ?_)));refine ret_ok rfl ?_ (by omega) (fun t ht=>(hk2 t (by omega)));clear hK3;refine congrArg (D.int .i64) ?_;simp only [Val.kind]
   grind
  ·
   refine WP.skip (hK3 _ (wr (ua (u_nil (WP.ret ?_)))));refine ret_ok rfl ?_ (by omega) (fun t ht=>(hk2 t (by omega)));clear hK3;refine congrArg (D.int .i64) ?_;simp only [Val.kind]
   grind
def fieldsV (k:Int):Int:=if k=1 then 0 else if k=7 then 3 else if k=2 then 13 else if k=4 then 5 else if k=3 then 21 else if k=5∨k=6 then 1 else -1
theorem fn99:FnOk Tryz.prog 99 21 [2] (bodyOf Tryz.f99):=⟨Tryz.f99,Tryz.func99,by kernel_rfl,by decide,by kernel_rfl,by kernel_rfl⟩
theorem s99 (k:Int):PSpec Tryz.prog 99 [.d (.int .i64 k)] (.d (.int .i64 (fieldsV k))):=by
 refine PSpec.of fn99 (by simp) fun o nk=>?_;refine wr ?_;refine ua ?_;refine u_nil ?_;refine wr ?_;refine ua ?_;refine u_nil ?_;refine WP.seq fun K3 hK3=>?_;refine wr ?_;refine um ?_;refine u_nil ?_;refine WP.block ?_;refine WP.seq fun K5 hK5=>?_;refine WP.block ?_;refine WP.seq fun K6 hK6=>?_;refine WP.block ?_;refine WP.seq fun K7 hK7=>?_;refine WP.block ?_;refine WP.seq fun K8 hK8=>?_;refine WP.block ?_;refine WP.seq fun K9 hK9=>?_;refine WP.block ?_;refine WP.seq fun K10 hK10=>?_;refine WP.block ?_;refine WP.seq fun K11 hK11=>?_;refine WP.seq fun K12 hK12=>?_;refine wr ?_;refine ub ?_;refine ua ?_;refine u_nil ?_;refine wc (fun hc14=>?_) (fun hc14=>?_) <;> try simp only [Q0,Q1,Q2,Q3,Q4,Q5,Q6,Q7,Q8,ge_iff_le,gt_iff_lt] at hc14
 ·
  refine WP.exit ?_;refine hK10 _ (WP.seq fun K15 hK15=>?_);refine wr (ua (u_nil (WP.ret ?_)));refine ret_ok rfl ?_ (by omega) (fun _ _=>rfl);refine congrArg (D.int .i64) ?_;clear hK3 hK5 hK6 hK7 hK8 hK9 hK10 hK11 hK12 hK15;simp only [beq_iff_eq,beq_eq_false_iff_ne,ne_eq] at hc14;simp only [fieldsV]
  first | (simp [hc14];done) | (simp [hc14];decide) | (simp_all;done) | (simp_all;decide) | grind
 ·
  refine WP.skip ?_;refine hK12 _ ?_;refine WP.seq fun K17 hK17=>?_;refine wr ?_;refine ub ?_;refine ua ?_;refine u_nil ?_;refine wc (fun hc19=>?_) (fun hc19=>?_) <;> try simp only [Q0,Q1,Q2,Q3,Q4,Q5,Q6,Q7,Q8,ge_iff_le,gt_iff_lt] at hc19
  ·
   refine WP.exit ?_;refine hK9 _ (WP.seq fun K20 hK20=>?_);refine wr (ua (u_nil (WP.ret ?_)));refine ret_ok rfl ?_ (by omega) (fun _ _=>rfl);refine congrArg (D.int .i64) ?_;clear hK3 hK5 hK6 hK7 hK8 hK9 hK10 hK11 hK12 hK17 hK20;simp only [beq_iff_eq,beq_eq_false_iff_ne,ne_eq] at hc14 hc19;simp only [fieldsV]
   first | (simp [hc14,hc19];done) | (simp [hc14,hc19];decide) | (simp_all;done) | (simp_all;decide) | grind
  ·
   refine WP.skip ?_;refine hK17 _ ?_;refine WP.seq fun K22 hK22=>?_;refine wr ?_;refine ub ?_;refine ua ?_;refine u_nil ?_;refine wc (fun hc24=>?_) (fun hc24=>?_) <;> try simp only [Q0,Q1,Q2,Q3,Q4,Q5,Q6,Q7,Q8,ge_iff_le,gt_iff_lt] at hc24
   ·
    refine WP.exit ?_;refine hK8 _ (WP.reg tabOk rfl ?_);refine ua (u_nil (hK7 _ (WP.seq fun K25 hK25=>?_)));refine wr (um (ub (ub (ua (u_nil (WP.ret ?_))))));refine ret_ok rfl ?_ (by omega) (fun _ _=>rfl);refine congrArg (D.int .i64) ?_;clear hK3 hK5 hK6 hK7 hK8 hK9 hK10 hK11 hK12 hK17 hK22 hK25;simp only [beq_iff_eq,beq_eq_false_iff_ne,ne_eq] at hc14 hc19 hc24;simp only [fieldsV]
    first | (simp [hc14,hc19,hc24];done) | (simp [hc14,hc19,hc24];decide) | (simp_all;done) | (simp_all;decide) | grind
   ·
    refine WP.skip ?_;refine hK22 _ ?_;refine WP.seq fun K27 hK27=>?_;refine wr ?_;refine ub ?_;refine ua ?_;refine u_nil ?_;refine wc (fun hc29=>?_) (fun hc29=>?_) <;> try simp only [Q0,Q1,Q2,Q3,Q4,Q5,Q6,Q7,Q8,ge_iff_le,gt_iff_lt] at hc29
    ·
     refine WP.exit ?_;refine hK7 _ (WP.seq fun K30 hK30=>?_);refine wr (um (ub (ub (ua (u_nil (WP.ret ?_))))));refine ret_ok rfl ?_ (by omega) (fun _ _=>rfl);refine congrArg (D.int .i64) ?_;clear hK3 hK5 hK6 hK7 hK8 hK9 hK10 hK11 hK12 hK17 hK22 hK27 hK30;simp only [beq_iff_eq,beq_eq_false_iff_ne,ne_eq] at hc14 hc19 hc24 hc29;simp only [fieldsV]
     first | (simp [hc14,hc19,hc24,hc29];done) | (simp [hc14,hc19,hc24,hc29];decide) | (simp_all;done) | (simp_all;decide) | grind
    ·
     refine WP.skip ?_;refine hK27 _ ?_;refine WP.seq fun K32 hK32=>?_;refine wr ?_;refine ub ?_;refine ua ?_;refine u_nil ?_;refine wc (fun hc34=>?_) (fun hc34=>?_) <;> try simp only [Q0,Q1,Q2,Q3,Q4,Q5,Q6,Q7,Q8,ge_iff_le,gt_iff_lt] at hc34
     ·
      refine WP.exit ?_;refine hK6 _ (WP.seq fun K35 hK35=>?_);refine wr (ua (u_nil (WP.ret ?_)));refine ret_ok rfl ?_ (by omega) (fun _ _=>rfl);refine congrArg (D.int .i64) ?_;clear hK3 hK5 hK6 hK7 hK8 hK9 hK10 hK11 hK12 hK17 hK22 hK27 hK32 hK35;simp only [beq_iff_eq,beq_eq_false_iff_ne,ne_eq] at hc14 hc19 hc24 hc29 hc34;simp only [fieldsV]
      first | (simp [hc14,hc19,hc24,hc29,hc34];done) | (simp [hc14,hc19,hc24,hc29,hc34];decide) | (simp_all;done) | (simp_all;decide) | grind
     ·
      refine WP.skip ?_;refine hK32 _ ?_;refine WP.seq fun K37 hK37=>?_;refine wr ?_;refine ub ?_;refine ua ?_;refine u_nil ?_;refine wc (fun hc39=>?_) (fun hc39=>?_) <;> try simp only [Q0,Q1,Q2,Q3,Q4,Q5,Q6,Q7,Q8,ge_iff_le,gt_iff_lt] at hc39
      ·
       refine WP.skip ?_;refine hK37 _ ?_;refine wc (fun hc40=>?_) (fun hc40=>?_) <;> try simp only [Q0,Q1,Q2,Q3,Q4,Q5,Q6,Q7,Q8,ge_iff_le,gt_iff_lt] at hc40
       ·
        refine WP.exit ?_;refine hK5 _ (WP.seq fun K41 hK41=>?_);refine wr (ua (u_nil (WP.ret ?_)));refine ret_ok rfl ?_ (by omega) (fun _ _=>rfl);refine congrArg (D.int .i64) ?_;clear hK3 hK5 hK6 hK7 hK8 hK9 hK10 hK11 hK12 hK17 hK22 hK27 hK32 hK37 hK41;simp only [beq_iff_eq,beq_eq_false_iff_ne,ne_eq] at hc14 hc19 hc24 hc29 hc34 hc39 hc40;simp only [fieldsV]
        first | (simp [hc14,hc19,hc24,hc29,hc34,hc39,hc40];done) | (simp [hc14,hc19,hc24,hc29,hc34,hc39,hc40];decide) | (simp_all;done) | (simp_all;decide) | grind
       ·
        refine WP.skip (hK11 _ (WP.exit ?_));refine hK3 _ (wr (ua (u_nil (WP.ret ?_))));refine ret_ok rfl ?_ (by omega) (fun _ _=>rfl);refine congrArg (D.int .i64) ?_;clear hK3 hK5 hK6 hK7 hK8 hK9 hK10 hK11 hK12 hK17 hK22 hK27 hK32 hK37;simp only [beq_iff_eq,beq_eq_false_iff_ne,ne_eq] at hc14 hc19 hc24 hc29 hc34 hc39 hc40;simp only [fieldsV]
        first | (simp [hc14,hc19,hc24,hc29,hc34,hc39,hc40];done) | (simp [hc14,hc19,hc24,hc29,hc34,hc39,hc40];decide) | (simp_all;done) | (simp_all;decide) | grind
      ·
       refine WP.reg tabOk rfl ?_;refine ub ?_;refine ua ?_;refine u_nil ?_;refine hK37 _ ?_;refine wc (fun hc44=>?_) (fun hc44=>?_) <;> try simp only [Q0,Q1,Q2,Q3,Q4,Q5,Q6,Q7,Q8,ge_iff_le,gt_iff_lt] at hc44
       ·
        refine WP.exit ?_;refine hK5 _ (WP.seq fun K45 hK45=>?_);refine wr (ua (u_nil (WP.ret ?_)));refine ret_ok rfl ?_ (by omega) (fun _ _=>rfl);refine congrArg (D.int .i64) ?_;clear hK3 hK5 hK6 hK7 hK8 hK9 hK10 hK11 hK12 hK17 hK22 hK27 hK32 hK37 hK45;simp only [beq_iff_eq,beq_eq_false_iff_ne,ne_eq] at hc14 hc19 hc24 hc29 hc34 hc39 hc44;simp only [fieldsV]
        first | (simp [hc14,hc19,hc24,hc29,hc34,hc39,hc44];done) | (simp [hc14,hc19,hc24,hc29,hc34,hc39,hc44];decide) | (simp_all;done) | (simp_all;decide) | grind
       ·
        refine WP.skip (hK11 _ (WP.exit ?_));refine hK3 _ (wr (ua (u_nil (WP.ret ?_))));refine ret_ok rfl ?_ (by omega) (fun _ _=>rfl);refine congrArg (D.int .i64) ?_;clear hK3 hK5 hK6 hK7 hK8 hK9 hK10 hK11 hK12 hK17 hK22 hK27 hK32 hK37;simp only [beq_iff_eq,beq_eq_false_iff_ne,ne_eq] at hc14 hc19 hc24 hc29 hc34 hc39 hc44;simp only [fieldsV]
        first | (simp [hc14,hc19,hc24,hc29,hc34,hc39,hc44];done) | (simp [hc14,hc19,hc24,hc29,hc34,hc39,hc44];decide) | (simp_all;done) | (simp_all;decide) | grind
theorem retT_ok {ts:List Nat} {sl:Nat→SV} {o o0:Nat→Option AO} {nk nk0:Nat} {xs:List D} (h1:resOf ts ⟨sl,o,nk⟩=.tup (xs.map .d)) (h3:nk0≤nk) (h4:∀ t,t < nk0→o t=o0 t) :
 retQ ts (fun r o' nk'=>r=.tup (xs.map .d)∧nk0≤nk'∧∀ t,t < nk0→o' t=o0 t) .ret ⟨sl,o,nk⟩:=⟨h1,h3,h4⟩
def hasL (k:Int):List D:=
 if k=2 then [.bool true,.bool false,.bool true,.bool true,.bool false]
 else if k=3 then [.bool true,.bool false,.bool true,.bool false,.bool true]
 else if k=4 then [.bool true,.bool false,.bool true,.bool false,.bool false]
 else if k=5∨k=6 then [.bool true,.bool false,.bool false,.bool false,.bool false]
 else if k=7 then [.bool true,.bool true,.bool false,.bool false,.bool false]
 else [.bool false,.bool false,.bool false,.bool false,.bool false]
theorem hasT5 {s:SV} {k:Int} {a b c d e:Bool} (h1:s=.tup [.d (.bool a),.d (.bool b),.d (.bool c),.d (.bool d),.d (.bool e)]) (h:hasL k=[.bool a,.bool b,.bool c,.bool d,.bool e]):s=.tup ((hasL k).map .d):=by rw [h1,h];rfl
theorem fn64:FnOk Tryz.prog 64 19 [2,3,4,5,6] (bodyOf Tryz.f64):=⟨Tryz.f64,Tryz.func64,by kernel_rfl,by decide,by kernel_rfl,by kernel_rfl⟩
theorem s64 (k:Int):PSpec Tryz.prog 64 [.d (.int .i64 k)] (.tup ((hasL k).map .d)):=by
 refine PSpec.of2 fn64 (by simp) fun o nk=>?_;refine wr ?_;refine ua ?_;refine ua ?_;refine ua ?_;refine ua ?_;refine ua ?_;refine u_nil ?_;refine WP.seq fun K2 hK2=>?_;refine wr ?_;refine um ?_;refine u_nil ?_;refine WP.block ?_;refine wr ?_;refine ub ?_;refine ua ?_;refine u_nil ?_;refine wc (fun hc5=>?_) (fun hc5=>?_) <;> try simp only [Q0,Q1,Q2,Q3,Q4,Q5,Q6,Q7,Q8,ge_iff_le,gt_iff_lt] at hc5
 ·
  refine wr (ua (ua (ua (ua (ua (u_nil (WP.ret ?_)))))));refine retT_ok ?_ (by omega) (fun _ _=>rfl);clear hK2;simp only [beq_iff_eq,beq_eq_false_iff_ne,ne_eq] at hc5;refine hasT5 rfl ?_;simp only [hasL]
  grind
 ·
  refine wr ?_;refine ub ?_;refine ua ?_;refine u_nil ?_;refine wc (fun hc8=>?_) (fun hc8=>?_) <;> try simp only [Q0,Q1,Q2,Q3,Q4,Q5,Q6,Q7,Q8,ge_iff_le,gt_iff_lt] at hc8
  ·
   refine wr (ua (ua (ua (ua (ua (u_nil (WP.ret ?_)))))));refine retT_ok ?_ (by omega) (fun _ _=>rfl);clear hK2;simp only [beq_iff_eq,beq_eq_false_iff_ne,ne_eq] at hc5 hc8;refine hasT5 rfl ?_;simp only [hasL]
   grind
  ·
   refine wr ?_;refine ub ?_;refine ua ?_;refine u_nil ?_;refine wc (fun hc11=>?_) (fun hc11=>?_) <;> try simp only [Q0,Q1,Q2,Q3,Q4,Q5,Q6,Q7,Q8,ge_iff_le,gt_iff_lt] at hc11
   ·
    refine wr (ua (ua (ua (ua (ua (u_nil (WP.ret ?_)))))));refine retT_ok ?_ (by omega) (fun _ _=>rfl);clear hK2;simp only [beq_iff_eq,beq_eq_false_iff_ne,ne_eq] at hc5 hc8 hc11;refine hasT5 rfl ?_;simp only [hasL]
    grind
   ·
    refine WP.seq fun K13 hK13=>?_;refine wr ?_;refine ub ?_;refine ua ?_;refine u_nil ?_;refine wc (fun hc15=>?_) (fun hc15=>?_) <;> try simp only [Q0,Q1,Q2,Q3,Q4,Q5,Q6,Q7,Q8,ge_iff_le,gt_iff_lt] at hc15
    ·
     refine WP.skip ?_;refine hK13 _ ?_;refine wc (fun hc16=>?_) (fun hc16=>?_) <;> try simp only [Q0,Q1,Q2,Q3,Q4,Q5,Q6,Q7,Q8,ge_iff_le,gt_iff_lt] at hc16
     ·
      refine wr (ua (ua (ua (ua (ua (u_nil (WP.ret ?_)))))));refine retT_ok ?_ (by omega) (fun _ _=>rfl);clear hK2 hK13;simp only [beq_iff_eq,beq_eq_false_iff_ne,ne_eq] at hc5 hc8 hc11 hc15 hc16;refine hasT5 rfl ?_;simp only [hasL]
      grind
     ·
      refine wr ?_;refine ub ?_;refine ua ?_;refine u_nil ?_;refine wc (fun hc19=>?_) (fun hc19=>?_) <;> try simp only [Q0,Q1,Q2,Q3,Q4,Q5,Q6,Q7,Q8,ge_iff_le,gt_iff_lt] at hc19
      ·
       refine wr (ua (ua (ua (ua (ua (u_nil (WP.ret ?_)))))));refine retT_ok ?_ (by omega) (fun _ _=>rfl);clear hK2 hK13;simp only [beq_iff_eq,beq_eq_false_iff_ne,ne_eq] at hc5 hc8 hc11 hc15 hc16 hc19;refine hasT5 rfl ?_;simp only [hasL]
       grind
      ·
       refine WP.skip ?_;refine hK2 _ (wr (ua (ua (ua (ua (ua (u_nil (WP.ret ?_))))))));refine retT_ok ?_ (by omega) (fun _ _=>rfl);clear hK2 hK13;simp only [beq_iff_eq,beq_eq_false_iff_ne,ne_eq] at hc5 hc8 hc11 hc15 hc16 hc19;refine hasT5 rfl ?_;simp only [hasL]
       grind
    ·
     refine WP.reg tabOk rfl ?_;refine ub ?_;refine ua ?_;refine u_nil ?_;refine hK13 _ ?_;refine wc (fun hc22=>?_) (fun hc22=>?_) <;> try simp only [Q0,Q1,Q2,Q3,Q4,Q5,Q6,Q7,Q8,ge_iff_le,gt_iff_lt] at hc22
     ·
      refine wr (ua (ua (ua (ua (ua (u_nil (WP.ret ?_)))))));refine retT_ok ?_ (by omega) (fun _ _=>rfl);clear hK2 hK13;simp only [beq_iff_eq,beq_eq_false_iff_ne,ne_eq] at hc5 hc8 hc11 hc15 hc22;refine hasT5 rfl ?_;simp only [hasL]
      grind
     ·
      refine wr ?_;refine ub ?_;refine ua ?_;refine u_nil ?_;refine wc (fun hc25=>?_) (fun hc25=>?_) <;> try simp only [Q0,Q1,Q2,Q3,Q4,Q5,Q6,Q7,Q8,ge_iff_le,gt_iff_lt] at hc25
      ·
       refine wr (ua (ua (ua (ua (ua (u_nil (WP.ret ?_)))))));refine retT_ok ?_ (by omega) (fun _ _=>rfl);clear hK2 hK13;simp only [beq_iff_eq,beq_eq_false_iff_ne,ne_eq] at hc5 hc8 hc11 hc15 hc22 hc25;refine hasT5 rfl ?_;simp only [hasL]
       grind
      ·
       refine WP.skip ?_;refine hK2 _ (wr (ua (ua (ua (ua (ua (u_nil (WP.ret ?_))))))));refine retT_ok ?_ (by omega) (fun _ _=>rfl);clear hK2 hK13;simp only [beq_iff_eq,beq_eq_false_iff_ne,ne_eq] at hc5 hc8 hc11 hc15 hc22 hc25;refine hasT5 rfl ?_;simp only [hasL]
       grind
theorem PSpec.of2C {P:Program} {Θ:Tab} (hΘ:TabOk P Θ) {f:FuncId} {n:Nat} {rs:List ResultVar} {c:Code} {args:List SV} {xs:List D} (hf:FnOkC P f n rs c) (hn:args.length≤n)
    (h:∀ o nk,WP P n nk c ⟨slots args,o,nk⟩ (retC Θ rs fun r o' nk'=>r=.tup (xs.map .d)∧nk≤nk'∧∀ t,t < nk→o' t=o t)):PSpec P f args (.tup (xs.map .d)):=fun o nk=>by
  refine Spec.pure (fun m=>?_) ?_ (Spec.of_bodyC hΘ hf hn (h o nk))
  · exact lts_of fun i c hc=>by
      rw [List.getElem?_map] at hc;obtain ⟨d,_,rfl⟩:=Option.map_eq_some_iff.1 hc;trivial
  · show SV.tup (SV.rens id (xs.map .d))=_;rw [SV.rens_id]
theorem retC_ok {Θ:Tab} {a t b:Nat} {sl:Nat→SV} {o o0:Nat→Option AO} {nk nk0:Nat} {x y x' y':D} (h1:ResIs Θ ⟨sl,o,nk⟩ (.cell a t) (.d x')) (h2:sl b=.d y') (hx:x'=x) (hy:y'=y) (h3:nk0≤nk) (h4:∀ t,t < nk0→o t=o0 t) :
    retC Θ [.cell a t,.tmp b] (fun r o' nk'=>r=.tup ([x,y].map .d)∧nk0≤nk'∧∀ t,t < nk0→o' t=o0 t) .ret ⟨sl,o,nk⟩:=
  ⟨[.d x',.d y'],⟨h1,h2.symm,trivial⟩,by rw [hx,hy];rfl,h3,h4⟩
def digN:Str→Nat→Nat
 | [],n=>n
 | c :: s,n=>digN s (10 * n+(c.toNat - 48))
def isDig (c:UInt8):Bool:=decide (48≤c.toNat) && decide (c.toNat≤57)
def stepI (s:Str):Int:=if s.length < 1∨3 < s.length∨(s[0]?=some 48∧1 < s.length) then -1 else if s.all isDig then (digN s 0:Int) else -1
theorem digN_snoc:∀ (s:Str) (c:UInt8) (n:Nat),digN (s++[c]) n=10 * digN s n+(c.toNat - 48)
 | [],c,n=>rfl
 | x :: s,c,n=>by simp only [List.cons_append,digN];exact digN_snoc s c _
theorem digN_lt:∀ (s:Str) (n m:Nat),s.all isDig=true→n < 10 ^ m→digN s n < 10 ^ (m+s.length)
 | [],n,m,_,hn=>hn
 | c :: s,n,m,h,hn=>by
  simp only [List.all_cons,Bool.and_eq_true,isDig,decide_eq_true_eq] at h;have h1:10 * n+(c.toNat - 48) < 10 ^ (m+1):=by rw [Nat.pow_succ];omega
  have:=digN_lt s (10 * n+(c.toNat - 48)) (m+1) (by simpa [isDig] using h.2) h1;simp only [digN,List.length_cons]
  rwa [show m+(s.length+1)=m+1+s.length by omega]
theorem digN_le {s:Str} (h:s.all isDig=true) (hl:s.length≤3):digN s 0 < 1000:=by
 have:=digN_lt s 0 0 h (by simp);have h2:10 ^ (0+s.length)≤10 ^ 3:=Nat.pow_le_pow_right (by omega) (by omega);omega
theorem dig_step {n:Nat} {c:UInt8} (hn:n < 1000) (h1:48≤c.toNat):SV.d (.int .i64 (IntKind.i64.wrap (IntKind.i64.wrap (10 * (n:Int))+IntKind.i64.wrap (IntKind.u8.wrap ((c.toNat:Int) - 48)))))=SV.d (.int .i64 ((10 * n+(c.toNat - 48):Nat):Int)):=by
 have hc:c.toNat < 256:=c.toNat_lt;rw [wrap_u8,wrap_i64 (m:=10 * (n:Int)) (by omega) (by omega),wrap_i64 (m:=((c.toNat:Int) - 48) % 256) (by omega) (by omega),wrap_i64 (by omega) (by omega)];refine congrArg (fun m:Int=>SV.d (.int .i64 m)) ?_;omega
theorem stepI_neg {s:Str} (h1:1≤s.length) (h3:s.length≤3) {a b:Bool} (hq:(a || b)=false∧(decide (bAt s (0:Int).toNat=48) && decide ((1:Int) < s.length))=false):stepI s=if s.all isDig then (digN s 0:Int) else -1:=by
 have h0:0 < s.length:=by omega
 unfold stepI;rw [if_neg];rintro (h | h | ⟨h,h2⟩)
 ·omega
 ·omega
 ·have hq2:=hq.2;rw [List.getElem?_eq_getElem h0,Option.some.injEq] at h;rw [Int.toNat_zero,bAt_eq h0,h] at hq2;simp at hq2;omega
theorem fn136:FnOk Tryz.prog 136 48 [2] (bodyOf Tryz.f136):=⟨Tryz.f136,Tryz.func136,by kernel_rfl,by decide,by kernel_rfl,by kernel_rfl⟩
theorem s136 (s:Str):PSpec Tryz.prog 136 [.d (.str s)] (.d (.int .i64 (stepI s))):=by
 refine PSpec.of fn136 (by simp) fun o nk=>?_;refine wr (ua (u_nil (WP.seq fun K2 hK2=>?_)));refine wr (um ?_);refine u_step (o_len_str rfl th9 rfl ?_);refine ub (um ?_);apply gF
 ·rfl
 ·intro hg;exact pm
 apply gF
 ·rfl
 ·intro hg;try simp only [hg,ct,Bt]
  refine o_len_str rfl th9 rfl ⟨rfl,rfl,rfl⟩
 apply gF
 ·rfl
 ·intro hg;try simp only [hg,ct,Bt]
  exact pb
 refine uO (um ?_);apply gF
 ·rfl
 ·intro hg;exact pm
 apply gF
 ·rfl
 ·intro hg;try simp only [hg,ct,Bt]
  have hg2:=hg;try simp only [Q0,Q1,Q2,Q3,Q4,Q5,Q6,Q9,Qa,Qb,Qc,Qd] at hg2
  refine o_ix rfl rfl th9 rfl ?_ ?_ ⟨rfl,rfl,rfl⟩
  ·decide
  ·simp at hg2;simp;omega
 apply gF
 ·rfl
 ·intro hg;try simp only [hg,ct,Bt]
  exact pb
 apply gF
 ·rfl
 ·intro hg;try simp only [hg,ct,Bt]
  exact pm
 apply u_guard
 ·exact GC.ct _ _
 ·intro hg;exact pm
 apply u_guard
 ·exact GC.ct _ _
 ·intro hg;try simp only [hg,ct,Bt]
  refine o_len_str rfl th9 rfl ⟨rfl,rfl,rfl⟩
 apply u_guard
 ·exact GC.ct _ _
 ·intro hg;try simp only [hg,ct,Bt]
  exact pb
 apply gF
 ·rfl
 ·intro hg;try simp only [hg,ct,Bt]
  exact pA
 refine uO ?_;refine u_nil ?_;refine wc (fun hc4=>?_) (fun hc4=>?_) <;> try simp only [Q0,Q1,Q2,Q3,Q4,Q5,Q6,Q7,Q8,ge_iff_le,gt_iff_lt] at hc4
 ·
  refine wr (ua (u_nil (WP.ret ?_)));refine ret_ok rfl ?_ (by omega) (fun _ _=>rfl);clear hK2;refine congrArg (D.int .i64) ?_;have hq:=hc4;simp only [stepI];rw [if_pos];simp only [Bool.or_eq_true,Bool.and_eq_true,decide_eq_true_eq,beq_iff_eq] at hq;rcases hq with (h | h) | ⟨h,h2⟩
  ·exact .inl (by omega)
  ·exact .inr (.inl (by omega))
  ·refine .inr (.inr ⟨?_,by omega⟩);have h0:0 < s.length:=by omega
   rw [Int.toNat_zero,bAt_eq h0] at h;rw [List.getElem?_eq_getElem h0,(toNat_eq (n:=48) (by omega)).1 h];rfl
 ·
  have hq:=Bool.or_eq_false_iff.1 hc4;have hq1:=Bool.or_eq_false_iff.1 hq.1;have hl1:1≤s.length:=by have:=hq1.1;simp at this;omega
  have hl3:s.length≤3:=by have:=hq1.2;simp at this;omega
  refine WP.skip (hK2 _ (wr (ua (u_nil (WP.seq fun K7 hK7=>?_)))));refine wr (ua (u_nil (WP.block ?_)));refine WP.loopL (ι:=Nat) (fun i=>⟨al [(0,.d (.str s)),(3,.d (.int .i64 (digN (s.take i) 0:Nat))),(4,.d (.int .i64 i))],o,nk⟩) (fun i=>i≤s.length∧(s.take i).all isDig=true) (fun i=>s.length - i) (fun i hA=>?_) 0 ?_ ?_
  ·
   obtain ⟨hle_i,hin_i⟩:=hA;refine WP.seq fun K9 hK9=>?_;refine wr ?_;refine um ?_;refine um ?_;refine u_step (o_len_str rfl th9 rfl ?_);refine ub ?_;refine u_nil ?_;refine wc (fun hc11=>?_) (fun hc11=>?_) <;> try simp only [Q0,Q1,Q2,Q3,Q4,Q5,Q6,Q7,Q8,ge_iff_le,gt_iff_lt] at hc11
   ·
    refine WP.skip (hK9 _ (WP.seq fun K12 hK12=>?_));refine WP.block (WP.seq fun K13 hK13=>?_);refine wr (um (um ?_));refine u_step (o_ix rfl rfl th9 rfl ?_ ?_ ?_)
    ·first | exact Int.natCast_nonneg _ | decide
    ·first | assumption | (simp;omega) | omega
    refine ub (um ?_);apply gF
    ·rfl
    ·intro hg;exact pm
    apply gF
    ·rfl
    ·intro hg;exact pm
    apply gF
    ·rfl
    ·intro hg;try simp only [hg,ct,Bt]
     have hg2:=hg;try simp only [Q0,Q1,Q2,Q3,Q4,Q5,Q6,Q9,Qa,Qb,Qc,Qd] at hg2
     refine o_ix rfl rfl th9 rfl ?_ ?_ ⟨rfl,rfl,rfl⟩
     ·first | exact Int.natCast_nonneg _ | decide
     ·first | assumption | (simp;omega) | omega
    apply gF
    ·rfl
    ·intro hg;try simp only [hg,ct,Bt]
     exact pb
    refine uO ?_;refine u_nil ?_;refine wc (fun hc15=>?_) (fun hc15=>?_) <;> try simp only [Q0,Q1,Q2,Q3,Q4,Q5,Q6,Q7,Q8,ge_iff_le,gt_iff_lt] at hc15
    ·
     refine wr (ua (u_nil (WP.ret ?_)));refine ret_ok rfl ?_ (by omega) (fun _ _=>rfl);clear hK2 hK7 hK9 hK12 hK13;have hn:=stepI_neg hl1 hl3 hq;have he:=bAt_eq (l:=s) (i:=i) (by omega);have hb:=hc15;simp only [Int.toNat_natCast,he,Bool.or_eq_true,decide_eq_true_eq] at hb;have hd:isDig s[i]=false:=by simp only [isDig,Bool.and_eq_false_iff,decide_eq_false_iff_not];omega
     rw [hn,if_neg (by rw [all_false (p:=isDig) (by omega) hd];simp)]
    ·
     refine WP.skip (hK13 _ (WP.reg tabOk rfl ?_));refine um (ub (um (um ?_)));refine u_step (o_ix rfl rfl th9 rfl ?_ ?_ ?_)
     ·first | exact Int.natCast_nonneg _ | decide
     ·first | assumption | (simp;omega) | omega
     refine ub (uc th5 th3 ?_);refine ub (ua (u_nil (hK12 _ (WP.reg tabOk rfl ?_))));refine um (ub (ua (u_nil ?_)));have hb:=Bool.or_eq_false_iff.1 hc15;have he:=bAt_eq (l:=s) (i:=i) (by omega);simp only [Int.toNat_natCast,he,decide_eq_false_iff_not] at hb;have hd:isDig s[i]=true:=by simp only [isDig,Bool.and_eq_true,decide_eq_true_eq];omega
     have hlt:=digN_le hin_i (by simp;omega);refine ⟨i+1,⟨by omega,by rw [all_snoc (by omega),hin_i,hd];rfl⟩,by omega,?_⟩;refine Le.al ?_;simp only [List.forall_mem_cons];refine ⟨rfl,?_,cnt (by omega),by simp⟩;rw [take_snoc (by omega),digN_snoc,← dig_step hlt (by omega),← he];rfl
   ·
    refine WP.exit ?_;refine hK7 _ (wr (um (ua (u_nil (WP.ret ?_)))));refine ret_ok rfl ?_ (by omega) (fun _ _=>rfl);clear hK2 hK7 hK9;have hn:=stepI_neg hl1 hl3 hq;have h1:=all_true (by omega) hin_i;rw [hn,if_pos h1,List.take_of_length_le (by omega)]
  ·
   simp
  ·
   refine Le.al ?_;simp only [List.forall_mem_cons];exact ⟨rfl,rfl,rfl,by simp⟩
def idxL (s:Str):List D:=if 0≤stepI s then [.int .i64 (stepI s),.bool true] else [.int .i64 0,.bool false]
theorem dec_dig {s:Str} {i:Nat} (h:i < s.length) (h2:(Utf8.decode ⟨s.toArray⟩ i).1≤57):Utf8.decode ⟨s.toArray⟩ i=((s[i]'h).toNat,1):=by
 have hs:i < (⟨s.toArray⟩:ByteArray).size:=by simpa [ByteArray.size] using h
 have hg:(⟨s.toArray⟩:ByteArray)[i]'hs=s[i]'h:=rfl;by_cases ha:(s[i]'h).toNat < 128
 ·have:=decode_ascii ⟨s.toArray⟩ i hs (by rw [hg];exact ha);rw [this,hg]
 ·have:=(decode_high ⟨s.toArray⟩ i hs (by rw [hg];omega)).1;omega
theorem dig_not {s:Str} {i:Nat} (h:i < s.length) (h2:(Utf8.decode ⟨s.toArray⟩ i).1 < 48∨57 < (Utf8.decode ⟨s.toArray⟩ i).1):isDig (s[i]'h)=false:=by
 have hs:i < (⟨s.toArray⟩:ByteArray).size:=by simpa [ByteArray.size] using h
 have hg:(⟨s.toArray⟩:ByteArray)[i]'hs=s[i]'h:=rfl;simp only [isDig,Bool.and_eq_false_iff,decide_eq_false_iff_not];by_cases ha:(s[i]'h).toNat < 128
 ·have:=decode_ascii ⟨s.toArray⟩ i hs (by rw [hg];exact ha);rw [this,hg] at h2;simp only at h2;omega
 ·omega
theorem wrap_i32 {m:Int} (h1:-2147483648≤m) (h2:m≤2147483647):IntKind.i32.wrap m=m:=by
 simp only [IntKind.wrap,IntKind.bits,IntKind.signed];simp;omega
theorem dig_step2 {n c:Nat} (hn:n < 1000) (h1:48≤c) (h2:c≤57):SV.d (.int .i64 (IntKind.i64.wrap (IntKind.i64.wrap (10 * (n:Int))+IntKind.i64.wrap (IntKind.i32.wrap ((c:Int) - 48)))))=SV.d (.int .i64 ((10 * n+(c - 48):Nat):Int)):=by
 rw [wrap_i32 (by omega) (by omega),wrap_i64 (m:=10 * (n:Int)) (by omega) (by omega),wrap_i64 (m:=(c:Int) - 48) (by omega) (by omega),wrap_i64 (by omega) (by omega)];refine congrArg (fun m:Int=>SV.d (.int .i64 m)) ?_;omega
theorem idx_no {s:Str} (h:stepI s=-1):idxL s=[.int .i64 0,.bool false]:=by
 unfold idxL;rw [if_neg (by omega)]
theorem idx_at {s:Str} {n:Nat} (h:stepI s=(n:Int)):idxL s=[.int .i64 (n:Int),.bool true]:=by
 unfold idxL;rw [if_pos (by omega),h]
theorem stepI_out {s:Str} (h:s.length < 1∨3 < s.length∨(s[0]?=some 48∧1 < s.length)):stepI s=-1:=by
 unfold stepI;rw [if_pos h]
theorem stepI_in {s:Str} (h1:1≤s.length) (h3:s.length≤3) (h:¬ (s[0]?=some 48∧1 < s.length)):stepI s=if s.all isDig then (digN s 0:Int) else -1:=by
 unfold stepI;rw [if_neg];rintro (h' | h' | h')
 ·omega
 ·omega
 ·exact h h'
theorem zero_head {s:Str} (h0:0 < s.length):bAt s (0:Int).toNat=48↔s[0]?=some 48:=by
 rw [Int.toNat_zero,bAt_eq h0,List.getElem?_eq_getElem h0,Option.some.injEq];exact toNat_eq (n:=48) (by omega)
theorem fn184:FnOk Tryz.prog 184 43 [2,3] (bodyOf Tryz.f184):=⟨Tryz.f184,Tryz.func184,by kernel_rfl,by decide,by kernel_rfl,by kernel_rfl⟩
theorem s184 (s:Str):PSpec Tryz.prog 184 [.d (.str s)] (.tup ((idxL s).map .d)):=by
 refine PSpec.of2 fn184 (by simp) fun o nk=>?_;refine wr (ua (ua (u_nil (WP.seq fun K2 hK2=>?_))));refine wr (um ?_);refine u_step (o_len_str rfl th9 rfl ?_);refine ub (um ?_);apply gF
 ·rfl
 ·intro hg;exact pm
 apply gF
 ·rfl
 ·intro hg;try simp only [hg,ct,Bt]
  refine o_len_str rfl th9 rfl ⟨rfl,rfl,rfl⟩
 apply gF
 ·rfl
 ·intro hg;try simp only [hg,ct,Bt]
  exact pb
 refine uO (um ?_);apply gF
 ·rfl
 ·intro hg;exact pm
 apply gF
 ·rfl
 ·intro hg;try simp only [hg,ct,Bt]
  refine o_len_str rfl th9 rfl ⟨rfl,rfl,rfl⟩
 apply gF
 ·rfl
 ·intro hg;try simp only [hg,ct,Bt]
  exact pb
 apply gF
 ·rfl
 ·intro hg;try simp only [hg,ct,Bt]
  exact pm
 apply u_guard
 ·exact GC.ct _ _
 ·intro hg;exact pm
 apply u_guard
 ·exact GC.ct _ _
 ·intro hg;try simp only [hg,ct,Bt]
  have hg2:=hg;try simp only [Q0,Q1,Q2,Q3,Q4,Q5,Q6,Q9,Qa,Qb,Qc,Qd] at hg2
  refine o_ix rfl rfl th9 rfl ?_ ?_ ⟨rfl,rfl,rfl⟩
  ·decide
  ·simp at hg2;simp;omega
 apply u_guard
 ·exact GC.ct _ _
 ·intro hg;try simp only [hg,ct,Bt]
  exact pb
 apply gF
 ·rfl
 ·intro hg;try simp only [hg,ct,Bt]
  exact pA
 refine uO ?_;refine u_nil ?_;refine wc (fun hc4=>?_) (fun hc4=>?_) <;> try simp only [Q0,Q1,Q2,Q3,Q4,Q5,Q6,Q7,Q8,ge_iff_le,gt_iff_lt] at hc4
 ·
  refine wr (ua (ua (u_nil (WP.ret ?_))));refine retT_ok ?_ (by omega) (fun _ _=>rfl);clear hK2;have hq:=hc4;have hs:stepI s=-1:=by
   refine stepI_out ?_;simp only [Bool.or_eq_true,Bool.and_eq_true,decide_eq_true_eq,beq_iff_eq] at hq;rcases hq with (h | h) | ⟨h2,h⟩
   ·exact .inl (by omega)
   ·exact .inr (.inl (by omega))
   ·exact .inr (.inr ⟨(zero_head (by omega)).1 h,by omega⟩)
  rw [idx_no hs];rfl
 ·
  have hq:=Bool.or_eq_false_iff.1 hc4;have hq1:=Bool.or_eq_false_iff.1 hq.1;have hl1:1≤s.length:=by have:=hq1.1;simp at this;omega
  have hl3:s.length≤3:=by have:=hq1.2;simp at this;omega
  refine WP.skip (hK2 _ (wr (ua (u_nil (WP.seq fun K7 hK7=>?_)))));refine wr (um ?_);refine u_step (g_range rfl th9 rfl fun o9 hb9 hk9=>?_);refine u_nil (WP.block ?_);refine WP.loopL (ι:=Nat×(Nat→Option AO)) (fun ⟨i,o2⟩=>⟨al [(4,.d (.int .i64 (digN (s.take i) 0:Nat))),(26,.raw nk)],o2,(nk+1)⟩) (fun ⟨i,o2⟩=>i≤s.length∧o2 nk=some (.raw (itOb s i))∧(∀ t,t < nk→o2 t=o t)∧(s.take i).all isDig=true) (fun ⟨i,o2⟩=>s.length - i) (fun ⟨i,o2⟩ hA=>?_) ⟨0,o9⟩ ?_ ?_
  ·
   obtain ⟨hle,hob,hfr,hin_i⟩:=hA;refine wr ?_;refine u_step (g_next rfl hob (fun hp11 o11 hb11 hk11=>?_) (fun hp11=>?_))
   ·
    refine ue (u_nil (WP.seq fun K12 hK12=>?_));refine WP.cond rfl (fun hc13=>?_) (fun hc13=>by cases hc13);refine WP.skip (hK12 _ (WP.block (wr (ue (ua (u_nil (WP.seq fun K15 hK15=>?_)))))));refine wr (um (ub (um ?_)));apply gF
    ·rfl
    ·intro hg;exact pm
    apply gF
    ·rfl
    ·intro hg;try simp only [hg,ct,Bt]
     exact pb
    refine uO ?_;refine u_nil ?_;refine wc (fun hc17=>?_) (fun hc17=>?_) <;> try simp only [Q0,Q1,Q2,Q3,Q4,Q5,Q6,Q7,Q8,ge_iff_le,gt_iff_lt] at hc17
    ·
     refine wr (ua (ua (u_nil (WP.ret ?_))));refine retT_ok ?_ (by omega) (fun t ht=>(hk11 t (by omega)).trans ((hfr t (by omega))));have hz:¬ (s[0]?=some 48∧1 < s.length):=by
      rintro ⟨h,h2⟩;have h3:=hq.2;rw [(zero_head (by omega)).2 h] at h3;simp at h3;omega
     have hb:=hc17;simp only [Bool.or_eq_true,decide_eq_true_eq] at hb;have hd:=dig_not (s:=s) (i:=i) (by omega) (by omega);have hs:stepI s=-1:=by rw [stepI_in hl1 hl3 hz,if_neg (by rw [all_false (p:=isDig) (by omega) hd];simp)]
     rw [idx_no hs];rfl
    ·
     refine WP.skip (hK15 _ (WP.reg tabOk rfl ?_));refine um (ub (um (ub (uc th21 th3 ?_))));refine ub (ua (u_nil ?_));have hb:=Bool.or_eq_false_iff.1 hc17;simp only [decide_eq_false_iff_not] at hb;have hdd:=dec_dig (s:=s) (i:=i) (by omega) (by omega);have hlt:=digN_le hin_i (by simp;omega);have h9:=dig_step2 (n:=digN (s.take i) 0) (c:=(Utf8.decode ⟨s.toArray⟩ i).1) hlt (by omega) (by omega);have hd1:s[i].toNat=(Utf8.decode ⟨s.toArray⟩ i).1:=by rw [hdd]
     refine ⟨⟨i+1,o11⟩,⟨by omega,?_,(fun t ht=>(hk11 t (by omega)).trans ((hfr t (by omega)))),?_⟩,by simp only;omega,?_⟩
     ·have hft:=hb11;rw [hdd] at hft;exact hft
     ·rw [all_snoc (by omega),hin_i];simp only [isDig,Bool.true_and,Bool.and_eq_true,decide_eq_true_eq];omega
     ·refine Le.al ?_;simp only [List.forall_mem_cons];refine ⟨?_,rfl,by simp⟩;rw [take_snoc (by omega),digN_snoc,hd1,← h9];rfl
   ·
    refine ue (u_nil (WP.seq fun K19 hK19=>?_));refine WP.cond rfl (fun hc20=>by cases hc20) (fun hc20=>?_);refine WP.exit ?_;refine hK7 _ (wr (um (ua (ua (u_nil (WP.ret ?_))))));refine retT_ok ?_ (by omega) (fun t ht=>(hfr t (by omega)));have hz:¬ (s[0]?=some 48∧1 < s.length):=by
     rintro ⟨h,h2⟩;have h3:=hq.2;rw [(zero_head (by omega)).2 h] at h3;simp at h3;omega
    have h1:=all_true (by omega) hin_i;have hs:stepI s=(digN (s.take i) 0:Int):=by rw [stepI_in hl1 hl3 hz,if_pos h1,List.take_of_length_le (by omega)]
    rw [idx_at hs];rfl
  ·
   refine ⟨by simp,hb9,(fun t ht=>(hk9 t (by omega))),by simp⟩
  ·
   refine Le.al ?_;simp only [List.forall_mem_cons];exact ⟨rfl,rfl,by simp⟩
theorem cmpI_zero {a b:Int}:cmpI a b=0↔a=b:=by unfold cmpI;split <;> (try split) <;> omega
theorem orI_zero {x:Int} {r:List Int}:orI (x :: r)=0↔x=0∧orI r=0:=by
 simp only [orI];split <;> simp_all
theorem cmpB_zero:∀ {s t:Str},Go.Lib.compareBytes s t=0↔s=t
 | [],[]=>by simp [Go.Lib.compareBytes]
 | [],_ :: _=>by simp [Go.Lib.compareBytes]
 | _ :: _,[]=>by simp [Go.Lib.compareBytes]
 | a :: s,b :: t=>by
  have ih:=cmpB_zero (s:=s) (t:=t);simp only [Go.Lib.compareBytes,List.cons.injEq];by_cases h1:a < b
  ·have:a≠b:=fun e=>by subst e;exact UInt8.lt_irrefl _ h1
   simp [h1,this]
  ·by_cases h2:b < a
   ·have:a≠b:=fun e=>by subst e;exact UInt8.lt_irrefl _ h2
    simp [h1,h2,this]
   ·have:a=b:=UInt8.le_antisymm (UInt8.not_lt.1 h2) (UInt8.not_lt.1 h1);simp [h1,h2,this,ih]
mutual
def cmpV:Val→Val→Int
 | .mk k i t xs ns,w=>orI [cmpI k w.kind,cmpI i w.int,Go.Lib.compareBytes t w.text,cmpsV xs (decide (k=7)) w.items ns w.names]
def cmpsV:List Val→Bool→List Val→List Str→List Str→Int
 | [],_,ys,_,_=>cmpI 0 ys.length
 | x :: xs,doc,ys,ns,ms=>match ys with
  | []=>1
  | y :: ys=>orI [if doc=true then Go.Lib.compareBytes (ns.headD []) (ms.headD []) else 0,cmpV x y,cmpsV xs doc ys ns.tail ms.tail]
end
mutual
theorem cmpV_refl:∀ v,cmpV v v=0
 | .mk k i t xs ns=>by
  have h:=cmpsV_refl xs (decide (k=7)) ns;rw [cmpV];simp only [Val.kind,Val.int,Val.text,Val.items,Val.names,orI_zero,h,cmpI_zero.2 rfl,cmpB_zero.2 rfl];simp [orI]
theorem cmpsV_refl:∀ xs doc ns,cmpsV xs doc xs ns ns=0
 | [],_,_=>by rw [cmpsV];rfl
 | x :: xs,doc,ns=>by
  have h1:=cmpV_refl x;have h2:=cmpsV_refl xs doc ns.tail;rw [cmpsV];simp only [orI_zero,h1,h2,cmpB_zero.2 rfl];simp [orI]
end
mutual
theorem cmpV_eq:∀ (v w:Val),mayV v=true→mayV w=true→cmpV v w=0→v=w
 | .mk k i t xs ns,.mk k' i' t' ys ms,hv,hw,h=>by
  rw [cmpV] at h;simp only [Val.kind,Val.int,Val.text,Val.items,Val.names,orI_zero,cmpI_zero,cmpB_zero] at h;obtain ⟨rfl,rfl,rfl,h4,_⟩:=h;have hm1:maysV xs=true:=by rw [mayV] at hv;simp at hv;exact hv.1.1
  have hm2:maysV ys=true:=by rw [mayV] at hw;simp at hw;exact hw.1.1
  obtain ⟨rfl,h6⟩:=cmpsV_eq xs ys hm1 hm2 _ _ _ h4;have hn:ns=ms:=by
   by_cases hk:k=7
   ·subst hk;exact h6 (by simp) (may7 hv) (may7 hw)
   ·rw [mayV] at hv hw;simp only [Bool.and_eq_true,kindOk] at hv hw;have h1:=hv.2;have h2:=hw.2;have:ns.length=0∧ms.length=0:=by
     constructor
     ·grind
     ·grind
    rw [List.eq_nil_of_length_eq_zero this.1,List.eq_nil_of_length_eq_zero this.2]
  rw [hn]
theorem cmpsV_eq:∀ (xs ys:List Val),maysV xs=true→maysV ys=true→∀ (doc:Bool) (ns ms:List Str),cmpsV xs doc ys ns ms=0→xs=ys∧(doc=true→ns.length=xs.length→ms.length=ys.length→ns=ms)
 | [],ys,_,_,doc,ns,ms,h=>by
  rw [cmpsV,cmpI_zero] at h;have:ys=[]:=List.eq_nil_of_length_eq_zero (by omega);subst this;exact ⟨rfl,fun _ h1 h2=>by rw [List.eq_nil_of_length_eq_zero h1,List.eq_nil_of_length_eq_zero h2]⟩
 | x :: xs,[],_,_,doc,ns,ms,h=>by rw [cmpsV] at h;cases h
 | x :: xs,y :: ys,hx,hy,doc,ns,ms,h=>by
  rw [cmpsV] at h;simp only [orI_zero] at h;obtain ⟨h1,h2,h3,_⟩:=h;simp only [maysV,Bool.and_eq_true] at hx hy;have e1:=cmpV_eq x y hx.1 hy.1 h2;obtain ⟨e2,e3⟩:=cmpsV_eq xs ys hx.2 hy.2 doc ns.tail ms.tail h3;refine ⟨by rw [e1,e2],fun hd l1 l2=>?_⟩;rw [if_pos hd,cmpB_zero] at h1;cases ns with
  | nil=>simp at l1
  | cons n ns=>
   cases ms with
   | nil=>simp at l2
   | cons m ms=>
    simp only [List.headD_cons] at h1;have e4:ns=ms:=e3 hd (by simpa using l1) (by simpa using l2);rw [h1,e4]
end
def compV (v w:Val):Int:=if mayV v=true then (if mayV w=true then cmpV v w else 1) else if mayV w=true then -1 else 0
theorem comp_same {v w:Val} (hv:mayV v=true) (hw:mayV w=true):decide (compV v w=0)=sameV v w:=by
 unfold compV;rw [if_pos hv,if_pos hw,Bool.eq_iff_iff];simp only [decide_eq_true_eq,same_eq];exact ⟨fun h=>cmpV_eq v w hv hw h,fun h=>by rw [h];exact cmpV_refl w⟩
theorem orI_ne {a b c d:Int} (h:orI [a,b,c]≠0):orI [a,b,c,d]=orI [a,b,c]:=by
 simp only [orI] at *;split <;> (try split) <;> (try split) <;> simp_all
theorem orI_eq {a b c d:Int} (h:orI [a,b,c]=0):orI [a,b,c,d]=d:=by
 simp only [orI_zero] at h;obtain ⟨rfl,rfl,rfl,_⟩:=h;simp [orI];exact fun h=>h.symm
theorem cmps_step {xs ys:List Val} {ns ms:List Str} {doc:Bool} {i:Nat} (hx:i < xs.length) (hy:i < ys.length) :
    cmpsV (xs.drop i) doc (ys.drop i) (ns.drop i) (ms.drop i)=orI [if doc=true then Go.Lib.compareBytes (ns.getD i []) (ms.getD i []) else 0,cmpV (xs[i]'hx) (ys[i]'hy),cmpsV (xs.drop (i+1)) doc (ys.drop (i+1)) (ns.drop (i+1)) (ms.drop (i+1))]:=by
  rw [List.drop_eq_getElem_cons hx,List.drop_eq_getElem_cons hy,cmpsV];simp only [List.headD_eq_head?_getD,List.head?_drop,List.getD_eq_getElem?_getD,List.tail_drop]
theorem cmps_end {xs ys:List Val} {ns ms:List Str} {doc:Bool} {i:Nat} (h:¬ (i < xs.length∧i < ys.length)) (h1:i≤xs.length) (h2:i≤ys.length) :
    cmpsV (xs.drop i) doc (ys.drop i) (ns.drop i) (ms.drop i)=cmpI xs.length ys.length:=by
  by_cases hx:i < xs.length
  · have hy:ys.length=i:=by omega
    have e:ys.drop i=[]:=List.drop_eq_nil_of_le (by omega);rw [List.drop_eq_getElem_cons hx,e,cmpsV];unfold cmpI;rw [if_neg (by omega),if_pos (by omega)]
  · have e:xs.drop i=[]:=List.drop_eq_nil_of_le (by omega);rw [e,cmpsV,List.length_drop];unfold cmpI;split <;> split <;> (try split) <;> omega
theorem may7n {k i:Int} {t:Str} {xs:List Val} {ns:List Str} (h:mayV (.mk k i t xs ns)=true) (hk:k=7):ns.length=xs.length:=by subst hk;exact may7 h
theorem fn202:FnOk Tryz.prog 202 78 [4] (bodyOf Tryz.f202):=⟨Tryz.f202,Tryz.func202,by kernel_rfl,by decide,by kernel_rfl,by kernel_rfl⟩
theorem s202A (m:Nat):∀ (v w:Val),SizeOf.sizeOf v < m→mayV v=true→mayV w=true→PSpec Tryz.prog 202 [.d (encV v),.d (encV w)] (.d (.int .i64 (cmpV v w))):=by
 induction m with
 | zero=>intros;omega
 | succ m ih=>
  rintro ⟨kd,it,tx,xs,ns⟩ ⟨kd2,it2,tx2,ys,ms⟩ hv hmv hmw;refine PSpec.bd fun hbd=>?_;have hx:xs.length≤9223372036854775807:=by simpa [encVs_length] using hbd.1.2.2.2.1.1
  have hy:ys.length≤9223372036854775807:=by simpa [encVs_length] using hbd.2.1.2.2.2.1.1
  refine PSpec.of fn202 (by simp) fun o nk=>?_;refine wr ?_;refine u_step (g_box rfl fun o2 hb2 hk2=>?_);refine u_step (g_box rfl fun o3 hb3 hk3=>?_);have hb2_3:=(hk3 _ (by omega)).trans hb2;refine ua ?_;refine u_nil ?_;refine WP.seq fun K4 hK4=>?_;refine wd ?_;refine df th27 th3 hb2_3 ?_;refine dl th3 hb2_3 ?_;refine df th27 th3 hb3 ?_;refine dl th3 hb3 ?_;refine d_step (o_pcall (s206 _ _) rfl ⟨rfl,rfl,rfl⟩) ?_;refine df th27 th3 hb2_3 ?_;refine dl th3 hb2_3 ?_;refine df th27 th3 hb3 ?_;refine dl th3 hb3 ?_;refine d_step (o_pcall (s206 _ _) rfl ⟨rfl,rfl,rfl⟩) ?_;refine df th27 th9 hb2_3 ?_;refine dl th9 hb2_3 ?_;refine df th27 th9 hb3 ?_;refine dl th9 hb3 ?_;refine d_step (o_pcall (s207 _ _) rfl ⟨rfl,rfl,rfl⟩) ?_;refine d_step (o_bs rfl th37 rfl th3 rfl rfl (by decide) rfl (by decide) (by decide) ⟨rfl,rfl,rfl⟩) ?_;refine d_step (o_pcall (s205 [cmpI kd kd2,cmpI it it2,Go.Lib.compareBytes tx tx2]) rfl ⟨rfl,rfl,rfl⟩) ?_;refine da ?_;refine d_nil ?_;refine wr ?_;refine um ?_;refine ub ?_;refine u_nil ?_;refine wc (fun hc7=>?_) (fun hc7=>?_) <;> try simp only [Q0,Q1,Q2,Q3,Q4,Q5,Q6,Q7,Q8,ge_iff_le,gt_iff_lt] at hc7
  ·
   refine wr (um (ua (u_nil (WP.ret ?_))));refine ret_ok rfl ?_ (by omega) (fun t ht=>(hk3 t (by omega)).trans ((hk2 t (by omega))));clear hK4;refine congrArg (D.int .i64) ?_;rw [cmpV];exact (orI_ne (by simpa using hc7)).symm
  ·
   have hq0:orI [cmpI kd kd2,cmpI it it2,Go.Lib.compareBytes tx tx2]=0:=by simpa using hc7
   have hq:=hq0;simp only [orI_zero,cmpI_zero,cmpB_zero] at hq;obtain ⟨rfl,rfl,rfl,_⟩:=hq;have hcm:cmpV (.mk kd it tx xs ns) (.mk kd it tx ys ms)=cmpsV xs (decide (kd=7)) ys ns ms:=by rw [cmpV];exact orI_eq hq0
   refine WP.skip (hK4 _ (WP.seq fun K9 hK9=>?_));refine wr (uf th27 th25 hb2_3 ?_);refine ul th25 hb2_3 ?_;refine un th25 ?_;refine uf th27 th25 hb3 ?_;refine ul th25 hb3 ?_;refine un th25 ?_;refine u_step (o_mm (by decide) rfl ?_);refine um (u_nil (WP.block ?_));refine WP.loopL (ι:=Nat) (fun i=>⟨al [(2,.loc nk 0),(3,.loc (nk+1) 0),(35,.d (.int .i64 (if ((encVs ys).length:Int) < ((encVs xs).length:Int) then ((encVs ys).length:Int) else ((encVs xs).length:Int)))),(36,.d (.int .i64 i))],o3,((nk+1)+1)⟩) (fun i=>i≤xs.length∧i≤ys.length∧cmpV (.mk kd it tx xs ns) (.mk kd it tx ys ms)=cmpsV (xs.drop i) (decide (kd=7)) (ys.drop i) (ns.drop i) (ms.drop i)) (fun i=>xs.length - i) (fun i hA=>?_) 0 ?_ ?_
   ·
    obtain ⟨hi1,hi2,hin⟩:=hA;refine wr ?_;refine ub ?_;refine u_nil ?_;refine WP.seq fun K12 hK12=>?_;refine wc (fun hc13=>?_) (fun hc13=>?_) <;> try simp only [Q0,Q1,Q2,Q3,Q4,Q5,Q6,Q7,Q8,ge_iff_le,gt_iff_lt] at hc13
    ·
     have hlt:i < xs.length∧i < ys.length:=by have:=hc13;(try simp only [encVs_length] at this);constructor <;> (split at this <;> omega)
     have hst:=cmps_step (xs:=xs) (ys:=ys) (ns:=ns) (ms:=ms) (doc:=decide (kd=7)) hlt.1 hlt.2;refine WP.skip ?_;refine hK12 _ ?_;refine WP.seq fun K14 hK14=>?_;refine WP.block ?_;refine wr ?_;refine um ?_;refine ua ?_;refine u_nil ?_;refine WP.seq fun K16 hK16=>?_;refine wr ?_;refine uf th27 th3 hb2_3 ?_;refine ul th3 hb2_3 ?_;refine ub ?_;refine u_nil ?_;refine wc (fun hc18=>?_) (fun hc18=>?_) <;> try simp only [Q0,Q1,Q2,Q3,Q4,Q5,Q6,Q7,Q8,ge_iff_le,gt_iff_lt] at hc18
     ·
      have hk7:kd=7:=by simpa using hc18
      have hln:ns.length=xs.length:=may7n hmv hk7;have hlm:ms.length=ys.length:=may7n hmw hk7;have hdc:decide (kd=7)=true:=by simp [hk7]
      have e1:ns.getD i []=ns[i]:=by simp [show i < ns.length by omega]
      have e2:ms.getD i []=ms[i]:=by simp [show i < ms.length by omega]
      refine wd ?_;refine df th27 th22 hb2_3 ?_;refine dl th22 hb2_3 ?_;refine dm ?_
      refine d_step (o_ia_map rfl rfl th22 rfl th9 rfl (by omega) ⟨rfl,rfl,rfl⟩) ?_
      refine dL th9 ?_;refine df th27 th22 hb3 ?_;refine dl th22 hb3 ?_;refine dm ?_
      refine d_step (o_ia_map rfl rfl th22 rfl th9 rfl (by omega) ⟨rfl,rfl,rfl⟩) ?_
      refine dL th9 ?_;refine d_step (o_pcall (s207 _ _) rfl ⟨rfl,rfl,rfl⟩) ?_;refine da ?_;refine d_nil ?_;refine wr ?_;refine um ?_;refine ub ?_;refine u_nil ?_;refine wc (fun hc21=>?_) (fun hc21=>?_) <;> try simp only [Q0,Q1,Q2,Q3,Q4,Q5,Q6,Q7,Q8,ge_iff_le,gt_iff_lt] at hc21
      ·
       refine wr (um (ua (u_nil (WP.ret ?_))));refine ret_ok rfl ?_ (by omega) (fun t ht=>(hk3 t (by omega)).trans ((hk2 t (by omega))));clear hK4 hK9 hK12 hK14 hK16;refine congrArg (D.int .i64) ?_;rw [hin,hst,if_pos hdc,e1,e2];have hl:=hc21;simp only [orI];rw [if_neg (by simpa using hl)]
      ·
       have hX:(if decide (kd=7)=true then Go.Lib.compareBytes (ns.getD i []) (ms.getD i []) else 0)=0:=by rw [if_pos hdc,e1,e2];simpa using hc21
       refine WP.skip (hK16 _ (wd ?_));refine df th27 th25 hb2_3 ?_;refine dl th25 hb2_3 ?_;refine dm ?_
       first | refine d_step (o_ia_map rfl rfl th25 rfl th27 rfl (by omega) ⟨rfl,rfl,rfl⟩) ?_ | refine d_step (o_ia_vs rfl rfl th25 rfl th27 rfl (by omega) ⟨rfl,rfl,rfl⟩) ?_
       refine dL th27 ?_;refine df th27 th25 hb3 ?_;refine dl th25 hb3 ?_;refine dm ?_
       first | refine d_step (o_ia_map rfl rfl th25 rfl th27 rfl (by omega) ⟨rfl,rfl,rfl⟩) ?_ | refine d_step (o_ia_vs rfl rfl th25 rfl th27 rfl (by omega) ⟨rfl,rfl,rfl⟩) ?_
       refine dL th27 ?_;refine d_step (o_pcall (ih _ _ (by exact items_lt' (by omega) hv) (by exact may_items hmv (by omega)) (by exact may_items hmw (by omega))) rfl ⟨rfl,rfl,rfl⟩) ?_;refine da ?_;refine d_nil ?_;refine wr ?_;refine um ?_;refine ub ?_;refine u_nil ?_;refine wc (fun hc25=>?_) (fun hc25=>?_) <;> try simp only [Q0,Q1,Q2,Q3,Q4,Q5,Q6,Q7,Q8,ge_iff_le,gt_iff_lt] at hc25
       ·
        refine wr (um (ua (u_nil (WP.ret ?_))));refine ret_ok rfl ?_ (by omega) (fun t ht=>(hk3 t (by omega)).trans ((hk2 t (by omega))));clear hK4 hK9 hK12 hK14 hK16;refine congrArg (D.int .i64) ?_;have hl:=hc25;rw [hin,hst,hX];simp only [orI,if_true];rw [if_neg (by simpa using hl)]
       ·
        refine WP.skip (hK14 _ (WP.reg tabOk rfl ?_));refine ub (um (u_nil ?_));have hl:=hc25;refine ⟨i+1,⟨by omega,by omega,?_⟩,by omega,?_⟩
        ·rw [hin,hst,hX,show cmpV xs[i] ys[i]=0 from by simpa using hl];simp only [orI,if_true];split
         ·rename_i h0;exact h0.symm
         ·rfl
        ·refine Le.al ?_;simp only [List.forall_mem_cons];exact ⟨rfl,rfl,rfl,cnt (by omega),by simp⟩
     ·
      have hdc:decide (kd=7)=false:=by simpa using hc18
      have hX:(if decide (kd=7)=true then Go.Lib.compareBytes (ns.getD i []) (ms.getD i []) else 0)=0:=by rw [hdc];rfl
      refine WP.skip (hK16 _ (wd ?_));refine df th27 th25 hb2_3 ?_;refine dl th25 hb2_3 ?_;refine dm ?_
      first | refine d_step (o_ia_map rfl rfl th25 rfl th27 rfl (by omega) ⟨rfl,rfl,rfl⟩) ?_ | refine d_step (o_ia_vs rfl rfl th25 rfl th27 rfl (by omega) ⟨rfl,rfl,rfl⟩) ?_
      refine dL th27 ?_;refine df th27 th25 hb3 ?_;refine dl th25 hb3 ?_;refine dm ?_
      first | refine d_step (o_ia_map rfl rfl th25 rfl th27 rfl (by omega) ⟨rfl,rfl,rfl⟩) ?_ | refine d_step (o_ia_vs rfl rfl th25 rfl th27 rfl (by omega) ⟨rfl,rfl,rfl⟩) ?_
      refine dL th27 ?_;refine d_step (o_pcall (ih _ _ (by exact items_lt' (by omega) hv) (by exact may_items hmv (by omega)) (by exact may_items hmw (by omega))) rfl ⟨rfl,rfl,rfl⟩) ?_;refine da ?_;refine d_nil ?_;refine wr ?_;refine um ?_;refine ub ?_;refine u_nil ?_;refine wc (fun hc29=>?_) (fun hc29=>?_) <;> try simp only [Q0,Q1,Q2,Q3,Q4,Q5,Q6,Q7,Q8,ge_iff_le,gt_iff_lt] at hc29
      ·
       refine wr (um (ua (u_nil (WP.ret ?_))));refine ret_ok rfl ?_ (by omega) (fun t ht=>(hk3 t (by omega)).trans ((hk2 t (by omega))));clear hK4 hK9 hK12 hK14 hK16;refine congrArg (D.int .i64) ?_;have hl:=hc29;rw [hin,hst,hX];simp only [orI,if_true];rw [if_neg (by simpa using hl)]
      ·
       refine WP.skip (hK14 _ (WP.reg tabOk rfl ?_));refine ub (um (u_nil ?_));have hl:=hc29;refine ⟨i+1,⟨by omega,by omega,?_⟩,by omega,?_⟩
       ·rw [hin,hst,hX,show cmpV xs[i] ys[i]=0 from by simpa using hl];simp only [orI,if_true];split
        ·rename_i h0;exact h0.symm
        ·rfl
       ·refine Le.al ?_;simp only [List.forall_mem_cons];exact ⟨rfl,rfl,rfl,cnt (by omega),by simp⟩
    ·
     have hend:=cmps_end (xs:=xs) (ys:=ys) (ns:=ns) (ms:=ms) (doc:=decide (kd=7)) (i:=i) (by have:=hc13;(try simp only [encVs_length] at this);rintro ⟨h1,h2⟩;split at this <;> omega) (by omega) (by omega);refine WP.exit ?_;refine hK9 _ ?_;refine wr ?_;refine uf th27 th25 hb2_3 ?_;refine ul th25 hb2_3 ?_;refine un th25 ?_;refine uf th27 th25 hb3 ?_;refine ul th25 hb3 ?_;refine un th25 ?_;refine u_step (o_pcall (s206 _ _) rfl ?_);refine ua ?_;refine u_nil ?_;refine WP.ret ?_;refine ret_ok rfl ?_ (by omega) (fun t ht=>(hk3 t (by omega)).trans ((hk2 t (by omega))));clear hK4 hK9 hK12;refine congrArg (D.int .i64) ?_;rw [hin,hend];simp only [encVs_length]
   ·
    exact ⟨by omega,by omega,by simpa using hcm⟩
   ·
    refine Le.al ?_;simp only [List.forall_mem_cons];exact ⟨rfl,rfl,rfl,rfl,by simp⟩
theorem s202 (v w:Val) (hmv:mayV v=true) (hmw:mayV w=true):PSpec Tryz.prog 202 [.d (encV v),.d (encV w)] (.d (.int .i64 (cmpV v w))):=s202A _ v w (Nat.lt_succ_self _) hmv hmw
theorem fn194:FnOk Tryz.prog 194 23 [4] (bodyOf Tryz.f194):=⟨Tryz.f194,Tryz.func194,by kernel_rfl,by decide,by kernel_rfl,by kernel_rfl⟩
theorem s194 (v w:Val):PSpec Tryz.prog 194 [.d (encV v),.d (encV w)] (.d (.int .i64 (compV v w))):=by
 obtain ⟨kd,it,tx,xs,ns⟩:=v;obtain ⟨kd2,it2,tx2,ys,ms⟩:=w;refine PSpec.of fn194 (by simp) fun o nk=>?_;refine wr ?_;refine u_step (g_box rfl fun o2 hb2 hk2=>?_);refine u_step (g_box rfl fun o3 hb3 hk3=>?_);have hb2_3:=(hk3 _ (by omega)).trans hb2;refine ua (u_nil (WP.seq fun K4 hK4=>?_));refine wd ?_;refine dg th27 hb2_3 ?_;refine d_step (o_pcall (s76 (.mk kd it tx xs ns)) rfl ⟨rfl,rfl,rfl⟩) ?_;refine dg th27 hb3 ?_;refine d_step (o_pcall (s76 (.mk kd2 it2 tx2 ys ms)) rfl ⟨rfl,rfl,rfl⟩) ?_;refine da ?_;refine da ?_;refine d_nil ?_;refine WP.block (wr (um (um ?_)));apply gT
 ·rfl
 ·intro hg;exact pm
 refine uA ?_;refine ua ?_;refine u_nil ?_;refine wc (fun hc7=>?_) (fun hc7=>?_) <;> try simp only [Q0,Q1,Q2,Q3,Q4,Q5,Q6,Q7,Q8,ge_iff_le,gt_iff_lt] at hc7
 ·
  refine wr (ug th27 hb2_3 ?_);refine ug th27 hb3 ?_;refine u_step (o_pcall (s202 (.mk kd it tx xs ns) (.mk kd2 it2 tx2 ys ms) (by have:=hc7;simp at this;exact this.1) (by have:=hc7;simp at this;exact this.2)) rfl ?_);refine ua (u_nil (WP.ret ?_));refine ret_ok rfl ?_ (by omega) (fun t ht=>(hk3 t (by omega)).trans ((hk2 t (by omega))));clear hK4;refine congrArg (D.int .i64) ?_;simp only [compV]
  grind
 ·
  refine wr ?_;refine um ?_;refine ua ?_;refine u_nil ?_;refine wc (fun hc10=>?_) (fun hc10=>?_) <;> try simp only [Q0,Q1,Q2,Q3,Q4,Q5,Q6,Q7,Q8,ge_iff_le,gt_iff_lt] at hc10
  ·
   refine wr (ua (u_nil (WP.ret ?_)));refine ret_ok rfl ?_ (by omega) (fun t ht=>(hk3 t (by omega)).trans ((hk2 t (by omega))));clear hK4;refine congrArg (D.int .i64) ?_;simp only [compV]
   grind
  ·
   refine wr ?_;refine um ?_;refine ua ?_;refine u_nil ?_;refine wc (fun hc13=>?_) (fun hc13=>?_) <;> try simp only [Q0,Q1,Q2,Q3,Q4,Q5,Q6,Q7,Q8,ge_iff_le,gt_iff_lt] at hc13
   ·
    refine wr (ua (u_nil (WP.ret ?_)));refine ret_ok rfl ?_ (by omega) (fun t ht=>(hk3 t (by omega)).trans ((hk2 t (by omega))));clear hK4;refine congrArg (D.int .i64) ?_;simp only [compV]
    grind
   ·
    refine WP.skip (hK4 _ (wr (ua (u_nil (WP.ret ?_)))));refine ret_ok rfl ?_ (by omega) (fun t ht=>(hk3 t (by omega)).trans ((hk2 t (by omega))));clear hK4;refine congrArg (D.int .i64) ?_;simp only [compV]
    grind
theorem fn172:FnOk Tryz.prog 172 9 [4] (bodyOf Tryz.f172):=⟨Tryz.f172,Tryz.func172,by kernel_rfl,by decide,by kernel_rfl,by kernel_rfl⟩
theorem s172 (v w:Val):PSpec Tryz.prog 172 [.d (encV v),.d (encV w)] (.d (.bool (decide (compV v w=0)))):=by
 obtain ⟨kd,it,tx,xs,ns⟩:=v;obtain ⟨kd2,it2,tx2,ys,ms⟩:=w;refine PSpec.of fn172 (by simp) fun o nk=>?_;refine wr ?_;refine u_step (g_box rfl fun o2 hb2 hk2=>?_);refine u_step (g_box rfl fun o3 hb3 hk3=>?_);have hb2_3:=(hk3 _ (by omega)).trans hb2;refine ua (u_nil (wr (ug th27 hb2_3 ?_)));refine ug th27 hb3 ?_;refine u_step (o_pcall (s194 (.mk kd it tx xs ns) (.mk kd2 it2 tx2 ys ms)) rfl ?_);refine ub (ua (u_nil (WP.ret ?_)));refine ret_ok rfl ?_ (by omega) (fun t ht=>(hk3 t (by omega)).trans ((hk2 t (by omega))));refine congrArg D.bool ?_;rw [Bool.eq_iff_iff];simp
theorem encVs_snoc {xs:List Val} {i:Nat} (h:i < xs.length):encVs (xs.take (i+1))=encVs (xs.take i)++[encV (xs[i]'h)]:=by
 rw [List.take_succ_eq_append_getElem h,encVs_map,encVs_map,List.map_append];rfl
theorem fn127:FnOk Tryz.prog 127 8 [2] (bodyOf Tryz.f127):=⟨Tryz.f127,Tryz.func127,by kernel_rfl,by decide,by kernel_rfl,by kernel_rfl⟩
theorem s127 (ns:List Str) (hsz:ns.length≤1099511627776):DSpec Tryz.prog 127 [.d (.sl 1 (ns.map .str))] 9 1 (ns.map .str):=by
 refine DSpec.of fn127 (by simp) fun o nk=>?_;refine wr ?_;refine ua ?_;refine u_nil ?_;refine WP.seq fun K2 hK2=>?_;refine wr ?_;refine um ?_;refine u_step (o_eqnil rfl rfl th22 rfl fun nb4 hnb4=>?_);refine u_nil ?_;refine wc (fun hc5=>?_) (fun hc5=>?_) <;> try simp only [Q0,Q1,Q2,Q3,Q4,Q5,Q6,Q7,Q8,ge_iff_le,gt_iff_lt] at hc5
 ·
  refine wr (ua (u_nil (WP.ret ?_)));refine dnil_ok rfl ?_ (by omega) (fun _ _=>rfl);exact hnb4 hc5
 ·
  refine WP.skip (hK2 _ (wr ?_));refine u_step (g_bs0 th22 rfl th9 rfl rfl (by decide) fun o8 hb8 hk8=>?_);refine um ?_;refine u_step (g_ap rfl rfl th22 rfl th9 rfl rfl (by decide) rfl hb8 (by simp only [List.length_nil,List.length_map];omega) (by simp only [List.length_nil,List.length_map];omega) fun o9 hb9 hk9=>?_);refine uS (u_nil (WP.ret ?_));refine drow_ok rfl (by omega) (by omega) ?_ (fun t ht=>(hk9 t (by omega) (by omega)).trans ((hk8 t (by omega))));simpa using hb9
theorem fn77:FnOkC Tryz.prog 77 28 [.cell 2 27] (bodyOf Tryz.f77):=⟨Tryz.f77,Tryz.func77,by kernel_rfl,by decide,by kernel_rfl,by kernel_rfl⟩
theorem s77A (m:Nat):∀ v:Val,SizeOf.sizeOf v < m→szV v≤1099511627776→PSpec Tryz.prog 77 [.d (encV v)] (.d (encV v)):=by
 induction m with
 | zero=>intros;omega
 | succ m ih=>
  rintro ⟨kd,it,tx,xs,ns⟩ hv hsz;have hsz2:1+tx.length+szVs xs+szN ns≤1099511627776:=hsz;have hxl:=szVs_len xs;have hnl:=szN_len ns;have hln:=encVs_length xs;refine PSpec.ofC1 tabOk fn77 (by simp) fun o nk=>?_;refine wr ?_;refine u_step (g_box rfl fun o2 hb2 hk2=>?_);refine u_step (g_alloc th27 rfl fun o3 hb3 hk3=>?_);have hb2_3:=(hk3 _ (by omega)).trans hb2;refine u_nil (wr (uf th27 th22 hb2_3 ?_));refine ul th22 hb2_3 ?_;refine u_step (o_pcall ((s127 ns (by omega)).frz) rfl ?_);refine uf th27 th22 hb2_3 ?_;refine u_step0 (g_st rfl rfl rfl th22 rfl hb2_3 (by simp) fun o5 hb5 hk5=>?_);have hb3_5:=(hk5 _ (by omega)).trans hb3;refine u_nil (wr (uf th27 th25 hb5 ?_));refine ul th25 hb5 ?_;refine ua (u_nil (wr (uf th27 th25 hb5 ?_)));refine u_step0 (g_st rfl rfl rfl th25 rfl hb5 (by simp) fun o8 hb8 hk8=>?_);have hb3_8:=(hk8 _ (by omega)).trans hb3_5;refine u_nil (WP.seq fun K9 hK9=>?_);refine wr (um (un th25 ?_));refine um (u_nil (WP.block ?_));refine WP.loopL (ι:=Nat×SV×Option Nat×(Nat→Option AO)×Nat) (fun ⟨i,c,q,o2,nk2⟩=>⟨al [(1,.loc nk 0),(2,.loc (nk+1) 0),(13,.d (.sl 5 (encVs xs))),(14,.d (.int .i64 (encVs xs).length)),(15,.d (.int .i64 i))],o2,nk2⟩) (fun ⟨i,c,q,o2,nk2⟩=>i≤xs.length∧nk+2≤nk2∧o2 nk=some (.box [.d (.int .i64 kd),.d (.int .i64 it),.d (.str tx),c,.d (.sl 1 (ns.map .str))])∧o2 (nk+1)=some (.box [.d (.int .i64 0),.d (.int .i64 0),.d (.str []),.d .nil,.d .nil])∧dstOf o2 27 5 c=some (q,encVs (xs.take i))∧(∀ t,q=some t→nk+2≤t∧t < nk2)∧∀ t,t < nk→o2 t=o t) (fun ⟨i,c,q,o2,nk2⟩=>xs.length - i) (fun ⟨i,c,q,o2,nk2⟩ hA=>?_) ⟨0,.d .nil,none,o8,((nk+1)+1)⟩ ?_ ?_
  ·
   obtain ⟨hle,hnk,hob,hzb,hd,hq,hfr⟩:=hA;refine wr ?_;refine ub ?_;refine u_nil ?_;refine WP.seq fun K12 hK12=>?_;refine wc (fun hc13=>?_) (fun hc13=>?_) <;> try simp only [Q0,Q1,Q2,Q3,Q4,Q5,Q6,Q7,Q8,ge_iff_le,gt_iff_lt] at hc13
   ·
    refine WP.skip (hK12 _ (WP.seq fun K14 hK14=>?_));refine WP.block (wr ?_)
    first | refine u_step (o_ia_map rfl rfl th25 rfl th27 rfl (by omega) ?_) | refine u_step (o_ia_vs rfl rfl th25 rfl th27 rfl (by omega) ?_)
    refine uL th27 ?_;refine u_step (g_alloc th27 rfl fun o16 hb16 hk16=>?_);have hob_16:=(hk16 _ (by omega)).trans hob;have hzb_16:=(hk16 _ (by omega)).trans hzb;have hd_16:=dst_keep hd fun t e=>hk16 t (by have:=hq t e;omega);refine u_step0 (g_sta rfl (congrArg SV.d (encV_eq _)) th27 rfl hb16 (by simp [valCells]) fun o17 hb17 hk17=>?_);have hob_17:=(hk17 _ (by omega)).trans hob_16;have hzb_17:=(hk17 _ (by omega)).trans hzb_16;have hd_17:=dst_keep hd_16 fun t e=>hk17 t (by have:=hq t e;omega);refine u_nil ?_;refine WP.dr2 [.q 0 0,.q 0 0,.q 0 0,.q 0 0,.q 0 0,.w 0,.q 1 1,.w 1] [5,7] ((nk2+1)+1) ((nk2+1)+1) tabOk (by kernel_rfl) rfl (by kernel_rfl) (by kernel_rfl) ?_;apply Exists.intro;apply Exists.intro;refine e_step rfl (o_fa_loc rfl th27 rfl rfl th25 (by decide) hob_17 ⟨rfl,rfl,rfl⟩) ?_;refine e_step rfl (o_ld_locV rfl th25 rfl hob_17 rfl ⟨rfl,rfl,rfl⟩) ?_;refine e_step rfl (o_ld_agg rfl th27 rfl hb17 rfl rfl rfl ⟨rfl,rfl,rfl⟩) ?_;refine e_step rfl (o_pcall (pv (v:=xs[i]) (ih _ (by exact items_lt' (by omega) hv) (by have:=szVs_get (xs:=xs) (j:=i) (by omega);omega))) rfl ⟨rfl,rfl,rfl⟩) ?_
    first | refine e_step rfl (o_bs rfl th25 rfl th27 rfl rfl (by decide) rfl (by decide) (by decide) ⟨rfl,rfl,rfl⟩) ?_ | refine e_step rfl (o_bs1 rfl (by simp only [encV_width]) th25 rfl th27 rfl rfl (by decide) (by decide) ⟨rfl,rfl,rfl⟩) ?_
    refine e_w rfl rfl (w_apD rfl th25 rfl th27 rfl rfl (by decide) rfl hd_17 (by simp only [encVs_length,List.length_take,List.length_cons,List.length_nil];omega) (by simp only [encVs_length,List.length_take,List.length_cons,List.length_nil];omega) ⟨rfl,rfl,rfl⟩) ?_;refine e_step rfl (o_fa_loc rfl th27 rfl rfl th25 (by decide) (((upd_ne _ _ (by omega)).trans (killo_ne (fun e=>by have:=hq _ e;omega))).trans hob_17) ⟨rfl,rfl,rfl⟩) ?_;refine e_w0 rfl rfl (w_stV rfl rfl (upd_same _ _ _) th25 rfl (((upd_ne _ _ (by omega)).trans (killo_ne (fun e=>by have:=hq _ e;omega))).trans hob_17) (by simp) ⟨rfl,rfl,rfl⟩) ?_;refine e_nil rfl fun o20 ho20=>?_;have hbZ_20:=(ho20 _).trans ((upd_ne _ _ (by omega)).trans (((upd_ne _ _ (by omega)).trans (killo_ne (fun e=>by have:=hq _ e;omega))).trans hzb_17));have hbb16_20:=(ho20 _).trans ((upd_ne _ _ (by omega)).trans (((upd_ne _ _ (by omega)).trans (killo_ne (fun e=>by have:=hq _ e;omega))).trans hb17));have hbr18_20:=(ho20 _).trans ((upd_ne _ _ (by omega)).trans (upd_same _ _ _));have hbB_20:=(ho20 _).trans (upd_same _ _ _);have hk20:∀ t,t < nk→o20 t=o17 t:=fun t ht=>(ho20 t).trans ((upd_ne _ _ (by omega)).trans ((upd_ne _ _ (by omega)).trans (killo_ne (fun e=>by have:=hq _ e;omega))));refine hK14 _ (WP.reg tabOk rfl ?_);refine ub (um (u_nil ?_));refine ⟨⟨i+1,.row _,some _,o20,((nk2+1)+1)⟩,⟨by omega,by omega,hbB_20,hbZ_20,(encVs_snoc (xs:=xs) (i:=i) (by omega)) ▸ dst_row hbr18_20,fun t e=>by injection e with e;omega,(fun t ht=>(hk20 t (by omega)).trans ((hk17 t (by omega)).trans ((hk16 t (by omega)).trans ((hfr t (by omega))))))⟩,by simp only;omega,?_⟩;refine Le.al ?_;simp only [List.forall_mem_cons];exact ⟨rfl,rfl,rfl,rfl,cnt (by omega),by simp⟩
   ·
    refine WP.exit ?_;refine hK9 _ ?_;refine WP.frzC (pre:=[.d (.int .i64 kd),.d (.int .i64 it),.d (.str tx)]) (post:=[.d (.sl 1 (ns.map .str))]) [(1,.loc nk 0),(2,.loc (nk+1) 0)] nk hob hd (Nat.le_refl _) (fun t e=>⟨rfl,rfl⟩) (fun t e=>by simp only [List.forall_mem_cons];exact ⟨rfl,rfl,by simp⟩) (fun e=>by simp only [List.forall_mem_cons];exact ⟨rfl,rfl,by simp⟩) fun o9 hB9 hk9 hm9=>?_;have hZ9:=hm9 _ _ (by omega) hzb fun t e=>rfl;have hF9:∀ t,t < nk→o9 t=o t:=fun t ht=>(hk9 t ht (fun e=>by have:=hq _ e;omega)).trans (hfr t ht);refine wr (ug th27 hB9 ?_);refine u_step0 (g_sta rfl rfl th27 rfl hZ9 (by first | (simp;done) | (simp [D.leaves,D.width,valCells];done) | decide) fun o22 hb22 hk22=>?_);have hB9_22:=(hk22 _ (by omega)).trans hB9;refine u_nil (WP.ret ?_);refine retC1_ok (resis_agg rfl th27 rfl hb22 rfl rfl rfl) ?_ (by omega) (fun t ht=>(hk22 t (by omega)).trans ((hF9 t (by omega))));rw [List.take_of_length_le (by omega)];rfl
  ·
   refine ⟨by omega,by omega,hb8,hb3_8,rfl,by simp,(fun t ht=>(hk8 t (by omega)).trans ((hk5 t (by omega)).trans ((hk3 t (by omega)).trans ((hk2 t (by omega))))))⟩
  ·
   refine Le.al ?_;simp only [List.forall_mem_cons];exact ⟨rfl,rfl,rfl,rfl,rfl,by simp⟩
theorem s77 (v:Val) (hsz:szV v≤1099511627776):PSpec Tryz.prog 77 [.d (encV v)] (.d (encV v)):=s77A _ v (Nat.lt_succ_self _) hsz
def placeV (v:Val) (s:Str):Int:=
 if v.kind=7 then idxS v.names s else if v.kind=6 then (if stepI s < v.items.length then stepI s else -1) else -1
def getV:Val→List Str→Option Val
 | v,[]=>some v
 | v,s :: p=>if 0≤placeV v s then (match v.items[(placeV v s).toNat]? with
  | some x=>getV x p
  | none=>none) else none
theorem place7 {k i:Int} {t:Str} {xs:List Val} {ns:List Str} {s:Str} (h:k=7):placeV (.mk k i t xs ns) s=idxS ns s:=by
 show (if k=7 then _ else _)=_;rw [if_pos h];rfl
def zeroV:Val:=.mk 0 0 [] [] []
def optL (o:Option Val):List D:=[encV (o.getD zeroV),.bool o.isSome]
def optL0 (o:Option Val):List D:=[match o with
 | some v=>encV v
 | none=>.agg [.int .i64 0,.int .i64 0,.str [],.nil,.nil],.bool o.isSome]
theorem opt_le (o:Option Val):D.les (optL0 o) (optL o):=by
 cases o with
 | none=>simp [optL0,optL,D.les,D.le,zeroV,encV,encVs]
 | some v=>exact D.les_refl _
def getP (v:Val) (p:List Str):Option Val:=if v.kind=7∧mayV v=true∧pathV p=true then getV v p else none
theorem item_ex {xs:List Val} {j:Nat} (h:j < xs.length):∃ x,xs[j]?=some x:=⟨_,List.getElem?_eq_getElem h⟩
theorem getP_no {v:Val} {p:List Str} (hq:((if v.kind≠7∨mayV v=false then (20:Int) else if pathV p=true then 0 else 40) != 0)=true):getP v p=none:=by
 simp only [bne_iff_ne,ne_eq] at hq;unfold getP;rw [if_neg];rintro ⟨q1,q2,q3⟩;rw [if_neg (by simp [q1,q2]),if_pos q3] at hq;exact hq rfl
theorem getP_yes {v:Val} {p:List Str} (hq:((if v.kind≠7∨mayV v=false then (20:Int) else if pathV p=true then 0 else 40) != 0)=false):getP v p=getV v p∧mayV v=true:=by
 simp only [bne_eq_false_iff_eq] at hq;unfold getP;split at hq
 ·cases hq
 ·rename_i hq1;simp only [ne_eq,not_or,Classical.not_not,Bool.not_eq_false] at hq1;split at hq
  ·rename_i hq2;exact ⟨if_pos ⟨hq1.1,hq1.2,hq2⟩,hq1.2⟩
  ·cases hq
theorem pv2 {P:Program} {f:FuncId} {v:Val} {c:SV} {r:SV} (h:PSpec P f [.d (encV v),c] r):PSpec P f [.d (.agg (valCells v)),c] r:=encV_eq v ▸ h
theorem get_step {v:Val} {s:Str} {p:List Str} {x:Val} (h:0≤placeV v s) (hx:v.items[(placeV v s).toNat]?=some x):getV v (s :: p)=getV x p:=by
 rw [getV,if_pos h,hx]
theorem get_no {v:Val} {s:Str} {p:List Str} (h:placeV v s < 0):getV v (s :: p)=none:=by
 rw [getV,if_neg (by omega)]
theorem items_at {v:Val} {j:Nat} {x:Val} (h:v.items[j]?=some x):(encVs v.items)[j]?=some (encV x):=by
 rw [encVs_map,List.getElem?_map,h];rfl
theorem s184b (s:Str):PSpec Tryz.prog 184 [.d (.str s)] (.tup [.d (.int .i64 (if 0≤stepI s then stepI s else 0)),.d (.bool (decide (0≤stepI s)))]):=by
 have h:=s184 s;have e:(idxL s).map SV.d=[.d (.int .i64 (if 0≤stepI s then stepI s else 0)),.d (.bool (decide (0≤stepI s)))]:=by
  unfold idxL;split <;> simp_all
 rwa [e] at h
theorem idx_lt (ns:List Str) (s:Str):idxS ns s < ns.length:=by
 unfold idxS firstI;split
 ·rename_i h;have:=List.findIdx_lt_length_of_exists (xs:=ns) (p:=fun x=>decide (s=x)) (by simpa using h);omega
 ·omega
theorem stepI_ge (s:Str):-1≤stepI s:=by unfold stepI;split <;> (try split) <;> omega
theorem may_item {v:Val} (h:mayV v=true) {x:Val} (hx:x∈v.items):mayV x=true:=by
 obtain ⟨k,i,t,xs,ns⟩:=v;obtain ⟨j,hj,rfl⟩:=List.mem_iff_getElem.1 hx;exact may_items h hj
theorem place_lt {v:Val} (h:mayV v=true) (s:Str):placeV v s < v.items.length:=by
 unfold placeV;split
 ·rename_i hk;obtain ⟨k,i,t,xs,ns⟩:=v;simp only [Val.kind] at hk;subst hk;have:=idx_lt ns s;have:=may7 h;simp only [Val.names,Val.items];omega
 ·split
  ·split <;> omega
  ·omega
theorem get_may:∀ (p:List Str) (v x:Val),mayV v=true→getV v p=some x→mayV x=true
 | [],v,x,hv,h=>by simp only [getV,Option.some.injEq] at h;rw [← h];exact hv
 | s :: p,v,x,hv,h=>by
  simp only [getV] at h;split at h
  ·split at h
   ·rename_i y hy;exact get_may p y x (may_item hv (List.mem_of_getElem? hy)) h
   ·cases h
  ·cases h
theorem sz_item {v:Val} {j:Nat} {x:Val} (h:v.items[j]?=some x):szV x≤szV v:=by
 obtain ⟨k,i,t,xs,ns⟩:=v;simp only [Val.items] at h;obtain ⟨hj,rfl⟩:=List.getElem?_eq_some_iff.1 h;have:=szVs_get hj;simp only [szV];omega
structure Etr where
 term:Int
 kind:Int
 coll:Str
 to:Str
 id:Val
 doc:Val
 deltas:List Dlt
 session:Int
 number:Int
def encE (e:Etr):D:=.agg ([.int .i64 e.term,.int .i64 e.kind,.str e.coll,.str e.to]++valCells e.id++valCells e.doc++[.sl 8 (e.deltas.map encD),.int .i64 e.session,.int .i64 e.number])
structure Flt where
 coll:Str
 path:List Str
 kinds:Int
def encF (f:Flt):D:=.agg [.str f.coll,.sl 1 (f.path.map .str),.int .i64 f.kinds]
theorem fn156:FnOk Tryz.prog 156 31 [4] (bodyOf Tryz.f156):=⟨Tryz.f156,Tryz.func156,by kernel_rfl,by decide,by kernel_rfl,by kernel_rfl⟩
theorem s156 (v:Val) (s:Str):PSpec Tryz.prog 156 [.d (encV v),.d (.str s)] (.d (.int .i64 (placeV v s))):=by
 obtain ⟨kd,it,tx,xs,ns⟩:=v;refine PSpec.of fn156 (by simp) fun o nk=>?_;refine wr ?_;refine u_step (g_box rfl fun o2 hb2 hk2=>?_);refine ua ?_;refine u_nil ?_;refine WP.seq fun K3 hK3=>?_;refine wr ?_;refine uf th27 th3 hb2 ?_;refine ul th3 hb2 ?_;refine u_nil ?_;refine WP.block ?_;refine wr ?_;refine ub ?_;refine ua ?_;refine u_nil ?_;refine wc (fun hc6=>?_) (fun hc6=>?_) <;> try simp only [Q0,Q1,Q2,Q3,Q4,Q5,Q6,Q7,Q8,ge_iff_le,gt_iff_lt] at hc6
 ·
  refine wr (uf th27 th22 hb2 ?_);refine ul th22 hb2 ?_;refine um ?_;refine u_step (o_pcall (s183 ns s) rfl ?_);refine ua (u_nil (WP.ret ?_));refine ret_ok rfl ?_ (by omega) (fun t ht=>(hk2 t (by omega)));clear hK3;refine congrArg (D.int .i64) ?_;have e1:=encVs_length xs;have e2:=stepI_ge s;simp only [beq_iff_eq,beq_eq_false_iff_ne,ne_eq,Bool.and_eq_true,Bool.and_eq_false_iff,decide_eq_true_eq,decide_eq_false_iff_not] at hc6;simp only [placeV,Val.kind,Val.items,Val.names]
  grind
 ·
  refine wr ?_;refine ub ?_;refine ua ?_;refine u_nil ?_;refine wc (fun hc9=>?_) (fun hc9=>?_) <;> try simp only [Q0,Q1,Q2,Q3,Q4,Q5,Q6,Q7,Q8,ge_iff_le,gt_iff_lt] at hc9
  ·
   refine wr (um ?_);refine u_step (o_pcall (s184b s) rfl ?_);refine u_step (o_moveV (v:=.tup _) rfl ?_);refine ue (ue (ua (ua (u_nil (wr (um (um ?_)))))));apply gT
   ·rfl
   ·intro hg;exact pm
   apply gT
   ·rfl
   ·intro hg;exact pf th27 th25 hb2
   apply gT
   ·rfl
   ·intro hg;try simp only [hg,ct,Bt]
    exact pl th25 hb2
   apply gT
   ·rfl
   ·intro hg;try simp only [hg,ct,Bt]
    exact pn th25
   apply gT
   ·rfl
   ·intro hg;try simp only [hg,ct,Bt]
    exact pb
   refine uA ?_;refine u_nil ?_;refine wc (fun hc12=>?_) (fun hc12=>?_) <;> try simp only [Q0,Q1,Q2,Q3,Q4,Q5,Q6,Q7,Q8,ge_iff_le,gt_iff_lt] at hc12
   ·
    refine wr (um (ua (u_nil (WP.ret ?_))));refine ret_ok rfl ?_ (by omega) (fun t ht=>(hk2 t (by omega)));clear hK3;refine congrArg (D.int .i64) ?_;have e1:=encVs_length xs;have e2:=stepI_ge s;simp only [beq_iff_eq,beq_eq_false_iff_ne,ne_eq,Bool.and_eq_true,Bool.and_eq_false_iff,decide_eq_true_eq,decide_eq_false_iff_not] at hc6 hc9 hc12;simp only [placeV,Val.kind,Val.items,Val.names]
    grind
   ·
    refine WP.skip (hK3 _ (wr (ua (u_nil (WP.ret ?_)))));refine ret_ok rfl ?_ (by omega) (fun t ht=>(hk2 t (by omega)));clear hK3;refine congrArg (D.int .i64) ?_;have e1:=encVs_length xs;have e2:=stepI_ge s;simp only [beq_iff_eq,beq_eq_false_iff_ne,ne_eq,Bool.and_eq_true,Bool.and_eq_false_iff,decide_eq_true_eq,decide_eq_false_iff_not] at hc6 hc9 hc12;simp only [placeV,Val.kind,Val.items,Val.names]
    grind
  ·
   refine WP.skip (hK3 _ (wr (ua (u_nil (WP.ret ?_)))));refine ret_ok rfl ?_ (by omega) (fun t ht=>(hk2 t (by omega)));clear hK3;refine congrArg (D.int .i64) ?_;have e1:=encVs_length xs;have e2:=stepI_ge s;simp only [beq_iff_eq,beq_eq_false_iff_ne,ne_eq,Bool.and_eq_true,Bool.and_eq_false_iff,decide_eq_true_eq,decide_eq_false_iff_not] at hc6 hc9;simp only [placeV,Val.kind,Val.items,Val.names]
   grind
theorem fn115:FnOk Tryz.prog 115 36 [4] (bodyOf Tryz.f115):=⟨Tryz.f115,Tryz.func115,by kernel_rfl,by decide,by kernel_rfl,by kernel_rfl⟩
theorem s115 (v:Val) (s:Str):PSpec Tryz.prog 115 [.d (encV v),.d (.str s)] (.d (.int .i64 (placeV v s))):=by
 refine PSpec.bd fun hbd=>?_;obtain ⟨kd,it,tx,xs,ns⟩:=v;have hx:ns.length≤9223372036854775807:=by simpa using hbd.1.2.2.2.2.1.1
 refine PSpec.of fn115 (by simp) fun o nk=>?_;refine wr ?_;refine u_step (g_box rfl fun o2 hb2 hk2=>?_);refine ua ?_;refine u_nil ?_;refine WP.seq fun K3 hK3=>?_;refine wr ?_;refine uf th27 th3 hb2 ?_;refine ul th3 hb2 ?_;refine ub ?_;refine u_nil ?_;refine wc (fun hc5=>?_) (fun hc5=>?_) <;> try simp only [Q0,Q1,Q2,Q3,Q4,Q5,Q6,Q7,Q8,ge_iff_le,gt_iff_lt] at hc5
 ·
  refine WP.seq fun K6 hK6=>?_;refine wr ?_;refine um ?_;refine u_step (o_pcall (s136 s) rfl ?_);refine ua ?_;refine u_nil ?_;refine wr ?_;refine um ?_;refine uf th27 th25 hb2 ?_;refine ul th25 hb2 ?_;refine un th25 ?_;refine ub ?_;refine u_nil ?_;refine wc (fun hc9=>?_) (fun hc9=>?_) <;> try simp only [Q0,Q1,Q2,Q3,Q4,Q5,Q6,Q7,Q8,ge_iff_le,gt_iff_lt] at hc9
  ·
   refine wr (um (ua (u_nil (WP.ret ?_))));refine ret_ok rfl ?_ (by omega) (fun t ht=>(hk2 t (by omega)));clear hK3 hK6;refine congrArg (D.int .i64) ?_;have e1:=encVs_length xs;have e2:=stepI_ge s;simp only [beq_iff_eq,beq_eq_false_iff_ne,ne_eq,decide_eq_true_eq,decide_eq_false_iff_not] at hc5 hc9;simp only [placeV,Val.kind,Val.items,Val.names]
   grind
  ·
   refine WP.skip (hK6 _ (wr (ua (u_nil (WP.ret ?_)))));refine ret_ok rfl ?_ (by omega) (fun t ht=>(hk2 t (by omega)));clear hK3 hK6;refine congrArg (D.int .i64) ?_;have e1:=encVs_length xs;have e2:=stepI_ge s;simp only [beq_iff_eq,beq_eq_false_iff_ne,ne_eq,decide_eq_true_eq,decide_eq_false_iff_not] at hc5 hc9;simp only [placeV,Val.kind,Val.items,Val.names]
   grind
 ·
  refine WP.skip ?_;refine hK3 _ ?_;refine WP.seq fun K12 hK12=>?_;refine wr ?_;refine uf th27 th3 hb2 ?_;refine ul th3 hb2 ?_;refine ub ?_;refine u_nil ?_;refine wc (fun hc14=>?_) (fun hc14=>?_) <;> try simp only [Q0,Q1,Q2,Q3,Q4,Q5,Q6,Q7,Q8,ge_iff_le,gt_iff_lt] at hc14
  ·
   have hk:kd=7:=by simpa using hc14
   refine wr (ua (u_nil (WP.block ?_)));refine WP.loopL (ι:=Nat) (fun i=>⟨al [(1,.d (.str s)),(2,.loc nk 0),(6,.d (.int .i64 i))],o2,(nk+1)⟩) (fun i=>i≤ns.length∧∀ (j:Nat) (hj:j < ns.length),j < i→decide (s=ns[j])=false) (fun i=>ns.length - i) (fun i hA=>?_) 0 ?_ ?_
   ·
    obtain ⟨hle_i,hin_i⟩:=hA;refine WP.seq fun K16 hK16=>?_;refine wr ?_;refine um ?_;refine uf th27 th22 hb2 ?_;refine ul th22 hb2 ?_;refine un th22 ?_;refine ub ?_;refine u_nil ?_;refine wc (fun hc18=>?_) (fun hc18=>?_) <;> try simp only [Q0,Q1,Q2,Q3,Q4,Q5,Q6,Q7,Q8,ge_iff_le,gt_iff_lt] at hc18
    ·
     refine WP.skip (hK16 _ (WP.seq fun K19 hK19=>?_));refine WP.block (wr (uf th27 th22 hb2 ?_));refine ul th22 hb2 ?_;refine um ?_
     refine u_step (o_ia_map rfl rfl th22 rfl th9 rfl (by omega) ?_)
     refine uL th9 ?_;refine um ?_;refine us ?_;refine u_nil ?_;refine wc (fun hc21=>?_) (fun hc21=>?_) <;> try simp only [Q0,Q1,Q2,Q3,Q4,Q5,Q6,Q7,Q8,ge_iff_le,gt_iff_lt] at hc21
     ·
      refine wr (um (ua (u_nil (WP.ret ?_))));refine ret_ok rfl ?_ (by omega) (fun t ht=>(hk2 t (by omega)));clear hK3 hK12 hK16 hK19;have hl:ns[i]=s:=by simpa using hc21
      refine congrArg (D.int .i64) ?_;rw [place7 hk,idxS,firstI_at (p:=fun x=>decide (s=x)) (xs:=ns) (i:=i) (by omega) (decide_eq_true hl.symm) hin_i]
     ·
      refine WP.skip (hK19 _ (WP.reg tabOk rfl ?_));refine um (ub (ua (u_nil ?_)));refine ⟨i+1,⟨by omega,?_⟩,by omega,?_⟩
      ·intro j hj h1;by_cases h2:j=i
       ·subst h2;have hl:=hc21;simp only [decide_eq_false_iff_not] at hl ⊢;exact fun e=>hl e.symm
       ·exact hin_i j hj (by omega)
      ·refine Le.al ?_;simp only [List.forall_mem_cons];exact ⟨rfl,rfl,cnt (by omega),by simp⟩
    ·
     refine WP.exit ?_;refine hK12 _ (wr (ua (u_nil (WP.ret ?_))));refine ret_ok rfl ?_ (by omega) (fun t ht=>(hk2 t (by omega)));clear hK3 hK12 hK16;refine congrArg (D.int .i64) ?_;rw [place7 hk,idxS,firstI_none (p:=fun x=>decide (s=x)) (xs:=ns) fun j hj=>hin_i j hj (by omega)]
   ·
    simp
   ·
    refine Le.al ?_;simp only [List.forall_mem_cons];exact ⟨rfl,rfl,rfl,by simp⟩
  ·
   refine WP.skip (hK12 _ (wr (ua (u_nil (WP.ret ?_)))));refine ret_ok rfl ?_ (by omega) (fun t ht=>(hk2 t (by omega)));clear hK3 hK12;refine congrArg (D.int .i64) ?_;have e1:=encVs_length xs;have e2:=stepI_ge s;simp only [beq_iff_eq,beq_eq_false_iff_ne,ne_eq,decide_eq_true_eq,decide_eq_false_iff_not] at hc5 hc14;simp only [placeV,Val.kind,Val.items,Val.names]
   grind
theorem fn114:FnOkC Tryz.prog 114 34 [.cell 4 27,.tmp 5] (bodyOf Tryz.f114):=⟨Tryz.f114,Tryz.func114,by kernel_rfl,by decide,by kernel_rfl,by kernel_rfl⟩
theorem s114a (v:Val) (p:List Str) (hsz:szV v≤1099511627776):PSpec Tryz.prog 114 [.d (encV v),.d (.sl 1 (p.map .str))] (.tup ((optL0 (getP v p)).map .d)):=by
 refine PSpec.bd fun hbd=>?_;obtain ⟨kd,it,tx,xs,ns⟩:=v;have hx:p.length≤9223372036854775807:=by simpa using hbd.2.1.1
 refine PSpec.of2C tabOk fn114 (by simp) fun o nk=>?_;refine wr ?_;refine u_step (g_box rfl fun o2 hb2 hk2=>?_);refine u_step (g_alloc th27 rfl fun o3 hb3 hk3=>?_);have hb2_3:=(hk3 _ (by omega)).trans hb2;refine ua ?_;refine u_nil ?_;refine WP.seq fun K4 hK4=>?_;refine wr ?_;refine ug th27 hb2_3 ?_;refine um ?_;refine u_step (o_pcall (s155 (.mk kd it tx xs ns) p) rfl ?_);refine ub ?_;refine u_nil ?_;refine wc (fun hc6=>?_) (fun hc6=>?_) <;> try simp only [Q0,Q1,Q2,Q3,Q4,Q5,Q6,Q7,Q8,ge_iff_le,gt_iff_lt] at hc6
 ·
  refine wr ?_;refine u_step (o_bu rfl th27 rfl rfl ?_);refine u_step0 (g_sta rfl rfl th27 rfl hb3 (by first | (simp;done) | (simp [D.leaves,D.width,valCells];done) | decide) fun o8 hb8 hk8=>?_);have hb2_8:=(hk8 _ (by omega)).trans hb2_3;refine ua (u_nil (WP.ret ?_));refine retC_ok (resis_agg rfl th27 rfl hb8 rfl rfl rfl) rfl ?_ ?_ (by omega) (fun t ht=>(hk8 t (by omega)).trans ((hk3 t (by omega)).trans ((hk2 t (by omega)))))
  ·rw [getP_no hc6]
  ·rw [getP_no hc6];rfl
 ·
  obtain ⟨hp,hmv⟩:=getP_yes hc6;refine WP.skip (hK4 _ (WP.seq fun K9 hK9=>?_));refine wr (um (un th22 ?_));refine um (u_nil (WP.block ?_));refine WP.loopL (ι:=Nat×Val×(Nat→Option AO)) (fun ⟨i,u,o2⟩=>⟨al [(2,.loc nk 0),(4,.loc (nk+1) 0),(14,.d (.sl 1 (p.map .str))),(15,.d (.int .i64 (p.map D.str).length)),(16,.d (.int .i64 i))],o2,((nk+1)+1)⟩) (fun ⟨i,u,o2⟩=>i≤p.length∧o2 nk=some (.box ((valCells u).map .d))∧o2 (nk+1)=some (.box [.d (.int .i64 0),.d (.int .i64 0),.d (.str []),.d .nil,.d .nil])∧(∀ t,t < nk→o2 t=o t)∧mayV u=true∧szV u≤1099511627776∧getV (.mk kd it tx xs ns) p=getV u (p.drop i)) (fun ⟨i,u,o2⟩=>p.length - i) (fun ⟨i,u,o2⟩ hA=>?_) ⟨0,(.mk kd it tx xs ns),o3⟩ ?_ ?_
  ·
   obtain ⟨hle,hob,hzb,hfr,hmu,hsu,hgt⟩:=hA;refine wr ?_;refine ub ?_;refine u_nil ?_;refine WP.seq fun K12 hK12=>?_;refine wc (fun hc13=>?_) (fun hc13=>?_) <;> try simp only [Q0,Q1,Q2,Q3,Q4,Q5,Q6,Q7,Q8,ge_iff_le,gt_iff_lt] at hc13
   ·
    refine WP.skip (hK12 _ (WP.seq fun K14 hK14=>?_));refine WP.block (wr ?_)
    refine u_step (o_ia_map rfl rfl th22 rfl th9 rfl (by omega) ?_)
    refine uL th9 ?_;refine ua ?_;refine u_nil ?_;refine wr ?_;refine ug th27 hob ?_;refine um ?_;refine u_step (o_pcall (pv2 (v:=u) (s156 u p[i])) rfl ?_);refine ua ?_;refine u_nil ?_;refine WP.seq fun K17 hK17=>?_;refine wr ?_;refine um ?_;refine ub ?_;refine u_nil ?_;refine wc (fun hc19=>?_) (fun hc19=>?_) <;> try simp only [Q0,Q1,Q2,Q3,Q4,Q5,Q6,Q7,Q8,ge_iff_le,gt_iff_lt] at hc19
    ·
     refine wr ?_;refine u_step (o_bu rfl th27 rfl rfl ?_);refine u_step0 (g_sta rfl rfl th27 rfl hzb (by first | (simp;done) | (simp [D.leaves,D.width,valCells];done) | decide) fun o21 hb21 hk21=>?_);have hob_21:=(hk21 _ (by omega)).trans hob;refine ua (u_nil (WP.ret ?_));refine retC_ok (resis_agg rfl th27 rfl hb21 rfl rfl rfl) rfl ?_ ?_ (by omega) (fun t ht=>(hk21 t (by omega)).trans ((hfr t (by omega))))
     ·rw [hp,hgt,List.drop_eq_getElem_cons (by omega),get_no (by omega)]
     ·rw [hp,hgt,List.drop_eq_getElem_cons (by omega),get_no (by omega)];rfl
    ·
     have hp0:0≤placeV u p[i]:=by omega
     have hlt:=place_lt hmu p[i];obtain ⟨x,hx⟩:∃ x,u.items[(placeV u p[i]).toNat]?=some x:=item_ex (xs:=u.items) (j:=(placeV u p[i]).toNat) (by omega);have hxs:=sz_item hx;refine WP.skip (hK17 _ (WP.reg tabOk rfl ?_));refine uf th27 th25 hob ?_;refine ul th25 hob ?_;refine um ?_;refine u_step (o_ia_sl (a:=encV x) rfl rfl th25 rfl th27 rfl (by omega) (items_at hx) ?_);refine u_step (o_ld_el rfl th27 (by simp only [encV_leaf,TK.agg,Bool.not_true]) (by simp only [encV_width]) ?_);refine u_step0 (g_sta rfl (congrArg SV.d (encV_eq x)) th27 rfl hob (by simp [valCells]) fun o22 hb22 hk22=>?_);have hzb_22:=(hk22 _ (by omega)).trans hzb;refine u_nil (hK14 _ (WP.reg tabOk rfl ?_));refine ub (um (u_nil ?_));refine ⟨⟨i+1,x,o22⟩,⟨by omega,hb22,hzb_22,(fun t ht=>(hk22 t (by omega)).trans ((hfr t (by omega)))),may_item hmu (List.mem_of_getElem? hx),by omega,?_⟩,by simp only;omega,?_⟩
     ·rw [hgt,List.drop_eq_getElem_cons (by omega),get_step hp0 hx]
     ·refine Le.al ?_;simp only [List.forall_mem_cons];exact ⟨rfl,rfl,rfl,rfl,cnt (by omega),by simp⟩
   ·
    refine WP.exit ?_;refine hK9 _ (wr (ug th27 hob ?_));refine u_step (o_pcall (pv (v:=u) (s77 u (by omega))) rfl ?_);refine u_step0 (g_sta rfl (congrArg SV.d (encV_eq u)) th27 rfl hzb (by simp [valCells]) fun o24 hb24 hk24=>?_);have hob_24:=(hk24 _ (by omega)).trans hob;refine ua (u_nil (WP.ret ?_));refine retC_ok (resis_agg rfl th27 rfl hb24 rfl rfl rfl) rfl ?_ ?_ (by omega) (fun t ht=>(hk24 t (by omega)).trans ((hfr t (by omega))))
    ·rw [hp,hgt,List.drop_eq_nil_of_le (by omega),getV];exact (encV_eq u).symm
    ·rw [hp,hgt,List.drop_eq_nil_of_le (by omega),getV];rfl
  ·
   exact ⟨by omega,hb2_3,hb3,(fun t ht=>(hk3 t (by omega)).trans ((hk2 t (by omega)))),hmv,hsz,rfl⟩
  ·
   refine Le.al ?_;simp only [List.forall_mem_cons];exact ⟨rfl,rfl,rfl,rfl,rfl,by simp⟩
theorem fn62:FnOkC Tryz.prog 62 29 [.cell 4 27,.tmp 5] (bodyOf Tryz.f62):=⟨Tryz.f62,Tryz.func62,by kernel_rfl,by decide,by kernel_rfl,by kernel_rfl⟩
theorem s62a (v:Val) (p:List Str) (hm:mayV v=true):PSpec Tryz.prog 62 [.d (encV v),.d (.sl 1 (p.map .str))] (.tup ((optL0 (getV v p)).map .d)):=by
 refine PSpec.bd fun hbd=>?_;obtain ⟨kd,it,tx,xs,ns⟩:=v;have hx:p.length≤9223372036854775807:=by simpa using hbd.2.1.1
 refine PSpec.of2C tabOk fn62 (by simp) fun o nk=>?_;refine wr ?_;refine u_step (g_box rfl fun o2 hb2 hk2=>?_);refine u_step (g_alloc th27 rfl fun o3 hb3 hk3=>?_);have hb2_3:=(hk3 _ (by omega)).trans hb2;refine ua (u_nil (WP.seq fun K4 hK4=>?_));refine wr (ua (u_nil (WP.block ?_)));refine WP.loopL (ι:=Nat×Val×(Nat→Option AO)) (fun ⟨i,u,o2⟩=>⟨al [(1,.d (.sl 1 (p.map .str))),(2,.loc nk 0),(4,.loc (nk+1) 0),(6,.d (.int .i64 i))],o2,((nk+1)+1)⟩) (fun ⟨i,u,o2⟩=>i≤p.length∧o2 nk=some (.box ((valCells u).map .d))∧o2 (nk+1)=some (.box [.d (.int .i64 0),.d (.int .i64 0),.d (.str []),.d .nil,.d .nil])∧(∀ t,t < nk→o2 t=o t)∧mayV u=true∧getV (.mk kd it tx xs ns) p=getV u (p.drop i)) (fun ⟨i,u,o2⟩=>p.length - i) (fun ⟨i,u,o2⟩ hA=>?_) ⟨0,(.mk kd it tx xs ns),o3⟩ ?_ ?_
 ·
  obtain ⟨hle,hob,hzb,hfr,hmu,hgt⟩:=hA;refine WP.seq fun K6 hK6=>?_;refine wr ?_;refine um ?_;refine um ?_;refine un th22 ?_;refine ub ?_;refine u_nil ?_;refine wc (fun hc8=>?_) (fun hc8=>?_) <;> try simp only [Q0,Q1,Q2,Q3,Q4,Q5,Q6,Q7,Q8,ge_iff_le,gt_iff_lt] at hc8
  ·
   refine WP.skip (hK6 _ (WP.seq fun K9 hK9=>?_));refine WP.block (wd ?_);refine dg th27 hob ?_;refine dm ?_;refine dm ?_
   refine d_step (o_ia_map rfl rfl th22 rfl th9 rfl (by omega) ⟨rfl,rfl,rfl⟩) ?_
   refine dL th9 ?_;refine d_step (o_pcall (pv2 (v:=u) (s115 u p[i])) rfl ⟨rfl,rfl,rfl⟩) ?_;refine da ?_;refine d_nil ?_;refine WP.seq fun K11 hK11=>?_;refine wr ?_;refine um ?_;refine ub ?_;refine u_nil ?_;refine wc (fun hc13=>?_) (fun hc13=>?_) <;> try simp only [Q0,Q1,Q2,Q3,Q4,Q5,Q6,Q7,Q8,ge_iff_le,gt_iff_lt] at hc13
   ·
    refine wr ?_;refine u_step (o_bu rfl th27 rfl rfl ?_);refine u_step0 (g_sta rfl rfl th27 rfl hzb (by first | (simp;done) | (simp [D.leaves,D.width,valCells];done) | decide) fun o15 hb15 hk15=>?_);have hob_15:=(hk15 _ (by omega)).trans hob;refine ua (u_nil (WP.ret ?_));refine retC_ok (resis_agg rfl th27 rfl hb15 rfl rfl rfl) rfl ?_ ?_ (by omega) (fun t ht=>(hk15 t (by omega)).trans ((hfr t (by omega))))
    ·rw [hgt,List.drop_eq_getElem_cons (by omega),get_no (by omega)]
    ·rw [hgt,List.drop_eq_getElem_cons (by omega),get_no (by omega)];rfl
   ·
    have hp0:0≤placeV u p[i]:=by omega
    have hlt:=place_lt hmu p[i];obtain ⟨x,hx⟩:∃ x,u.items[(placeV u p[i]).toNat]?=some x:=item_ex (xs:=u.items) (j:=(placeV u p[i]).toNat) (by omega);refine WP.skip (hK11 _ (WP.reg tabOk rfl ?_));refine uf th27 th25 hob ?_;refine ul th25 hob ?_;refine um ?_;refine u_step (o_ia_sl (a:=encV x) rfl rfl th25 rfl th27 rfl (by omega) (items_at hx) ?_);refine u_step (o_ld_el rfl th27 (by simp only [encV_leaf,TK.agg,Bool.not_true]) (by simp only [encV_width]) ?_);refine u_step0 (g_sta rfl (congrArg SV.d (encV_eq x)) th27 rfl hob (by simp [valCells]) fun o16 hb16 hk16=>?_);have hzb_16:=(hk16 _ (by omega)).trans hzb;refine u_nil (hK9 _ (WP.reg tabOk rfl ?_));refine um (ub (ua (u_nil ?_)));refine ⟨⟨i+1,x,o16⟩,⟨by omega,hb16,hzb_16,(fun t ht=>(hk16 t (by omega)).trans ((hfr t (by omega)))),may_item hmu (List.mem_of_getElem? hx),?_⟩,by simp only;omega,?_⟩
    ·rw [hgt,List.drop_eq_getElem_cons (by omega),get_step hp0 hx]
    ·refine Le.al ?_;simp only [List.forall_mem_cons];exact ⟨rfl,rfl,rfl,cnt (by omega),by simp⟩
  ·
   refine WP.exit ?_;refine hK4 _ (wr (ug th27 hob ?_));refine u_step0 (g_sta rfl rfl th27 rfl hzb (by first | (simp;done) | (simp [D.leaves,D.width,valCells];done) | decide) fun o18 hb18 hk18=>?_);have hob_18:=(hk18 _ (by omega)).trans hob;refine ua (u_nil (WP.ret ?_));refine retC_ok (resis_agg rfl th27 rfl hb18 rfl rfl rfl) rfl ?_ ?_ (by omega) (fun t ht=>(hk18 t (by omega)).trans ((hfr t (by omega))))
   ·rw [hgt,List.drop_eq_nil_of_le (by omega),getV];exact (encV_eq u).symm
   ·rw [hgt,List.drop_eq_nil_of_le (by omega),getV];rfl
 ·
  exact ⟨by omega,hb2_3,hb3,(fun t ht=>(hk3 t (by omega)).trans ((hk2 t (by omega)))),hm,rfl⟩
 ·
  refine Le.al ?_;simp only [List.forall_mem_cons];exact ⟨rfl,rfl,rfl,rfl,by simp⟩
theorem s114 (v:Val) (p:List Str) (hsz:szV v≤1099511627776):PSpec Tryz.prog 114 [.d (encV v),.d (.sl 1 (p.map .str))] (.tup ((optL (getP v p)).map .d)):=(s114a v p hsz).leT (opt_le _)
theorem s62 (v:Val) (p:List Str) (hm:mayV v=true):PSpec Tryz.prog 62 [.d (encV v),.d (.sl 1 (p.map .str))] (.tup ((optL (getV v p)).map .d)):=(s62a v p hm).leT (opt_le _)
end Go.Proofs.YtpkcbdhjnnnkbaaGreat.Abs
