/- Functions of this seat as Lean functions, and that the Go code comes to their answers: written by a program of this session's. -/
import Derived.Test.YtbnmddippoiabaaDoorO17x10
import Derived.Test.YtbnmddippoiabaaDoorO17x18
import Derived.Test.YtbnmddippoiabaaDoorO17x20
import Derived.Test.YtbnmddippoiabaaDoorO17x28
import Derived.Test.YtbnmddippoiabaaDoorO17x31
import Derived.Test.YtbnmddippoiabaaDoorO17x38
import Derived.Test.YtbnmddippoiabaaDoorO17x33
namespace Go.Proofs.YtbnmddippoiabaaDoor.P
open Go.RowKit Go.Proofs.YtbnmddippoiabaaDoorW.PrintWords Go.Proofs.YtbnmddippoiabaaDoorW.PrintLast Go.Proofs.YtbnmddippoiabaaDoorW.PrintMore
attribute [local go_sem] max2_int min2_int max_two min_two max_three min_three max_four min_four   -- for this text's walks alone
set_option linter.unusedVariables false
set_option linter.unusedSimpArgs false

/-! ### posthouselaw8_OfflineReportsAll: function 6 -/
attribute [local go_sem high] eqFault
set_option maxHeartbeats 4000000 in
set_option maxRecDepth 100000 in
theorem OffReports_a (k : Nat) (a0 a1 a2 : Int) (aA : Option Addr) (aa : Nat) (a3 : List (S55)) (aB : Option Addr) (ab : Nat) (a4 : List (S75)) (qA : Option Addr) (qa : Nat) (ql : List (S43)) (v0 : Int) (vs : List (S83)) (q q' : Int) (r0 r1 r2 : Int) (r3 : List (S55)) (r4 : List (S75)) (s5 s6 : Int) (sl : List (S68)) (w : World) (ha3 : Kd.C k55 w aA a3.length a3) (ea3 : a3.length ≤ aa) (ha4 : Kd.C k75 w aB a4.length a4) (ea4 : a4.length ≤ ab) (hql : Kd.C k43 w qA ql.length ql) (eql : ql.length ≤ qa) (hqw : ∀ q ∈ ql, (Lit.int .i64 q.f0).wf = true) (haw : mailbox_Validate.f k a0 a1 a2 a3 a4 = some (0, 0) → (Lit.int .i64 a1).wf = true) (hbx : ∀ w, Calls Tryd.prog 12 #[] w fun e w' => e = .returned (.bool true) ∧ Below w.heap.size w w') (o1 : views_Of.f k a0 a1 a2 a3 a4 = some (v0, vs, q, q')) (p1 : offline_Merge.f k a0 a1 a2 a3 a4 a1 ql = some (r0, r1, r2, r3, r4, sl, s5, s6)) (q1 : (q != 0) = true) :
    Calls Tryd.prog 6 #[.agg #[.int .i64 a0, .int .i64 a1, .int .i64 a2, .slice aA a3.length aa, .slice aB a4.length ab], .slice qA ql.length qa] w fun e w' => e = .returned (.bool true) ∧ Below w.heap.size w w' := by
  have HA3 := Aside0.mk ha3
  have HA4 := Aside0.mk ha4
  have HQL := Aside0.mk hql
  have HQW := Aside0.mk hqw
  have HAW := Aside0.mk haw
  have HBX := Aside0.mk hbx
  have O1 := Aside0.mk o1
  have P1 := Aside0.mk p1
  clear ha3 ha4 hql hqw haw hbx o1 p1
  have hu := Tryd.underlying25
  have hu2 := Tryd.underlying47
  have hfld := fieldFault_0
  have HB := Aside0.mk (below_alloc (Below.refl w.heap.size w) (.cells #[.int .i64 a0, .int .i64 a1, .int .i64 a2, .slice aA a3.length aa, .slice aB a4.length ab] 25))
  have HA := Aside0.mk (blk_at (w := w) (.cells #[.int .i64 a0, .int .i64 a1, .int .i64 a2, .slice aA a3.length aa, .slice aB a4.length ab] 25))
  go_enter Tryd.func6, Tryd.ntmps6
  go_wp2_with fail
  refine (HBX.out _).mono ?_
  rintro e w1 ⟨rfl, hb⟩
  replace HA := Aside0.mk (blk_call HA.out hb)
  replace HB := Aside0.mk (below_step HB.out hb)
  clear hb
  have kHA := bc0 HA.out
  have mHA := bc1 HA.out
  have nHA := bc2 HA.out
  have fHA := bf0 HA.out
  have yHA := blk_lt HA.out
  go_wp2_with fail
  clear kHA mHA nHA fHA yHA
  refine (views_Of.calls k a0 a1 a2 aA aa a3 aB ab a4 v0 vs q q' _ (Kd.C_below HA3.out HB.out) ea3 (Kd.C_below HA4.out HB.out) ea4 O1.out).mono ?_
  rintro e w2 ⟨v1_, rfl, hv1, hb⟩
  obtain ⟨vA, va, rfl⟩ := Kd.R_slice hv1
  have HvV := Aside0.mk (Kd.R_V (base' := 0) hv1)
  clear hv1
  replace HA := Aside0.mk (blk_call HA.out hb)
  replace HB := Aside0.mk (below_step HB.out hb)
  clear hb
  have kHA := bc0 HA.out
  have mHA := bc1 HA.out
  have nHA := bc2 HA.out
  have fHA := bf0 HA.out
  have yHA := blk_lt HA.out
  go_wp2_with fail
  clear kHA mHA nHA fHA yHA
  have l1_t2 := blk_lt HA.out
  replace HA := Aside0.mk (blk_later HA.out (.cells #[.int .i64 v0, (.slice vA vs.length va)] 47))
  replace HvV := Aside0.mk (Kd.V_alloc HvV.out (.cells #[.int .i64 v0, (.slice vA vs.length va)] 47))
  replace HB := Aside0.mk (below_alloc HB.out (.cells #[.int .i64 v0, (.slice vA vs.length va)] 47))
  have HV := Aside0.mk (blk_at (w := w2) (.cells #[.int .i64 v0, (.slice vA vs.length va)] 47))
  have hs0_t2_ : (w2.alloc (.cells #[.int .i64 v0, (.slice vA vs.length va)] 47)).heap.size = w2.heap.size + 1 := by simp
  generalize w2.alloc (.cells #[.int .i64 v0, (.slice vA vs.length va)] 47) = X3 at *
  generalize w2.heap.size = t2_ at *
  have l2_t21 := blk_lt HA.out
  have l3_t21 := blk_lt HV.out
  replace HA := Aside0.mk (blk_later HA.out (.cells #[.int .i64 q, .int .i64 q'] 29))
  replace HV := Aside0.mk (blk_later HV.out (.cells #[.int .i64 q, .int .i64 q'] 29))
  replace HvV := Aside0.mk (Kd.V_alloc HvV.out (.cells #[.int .i64 q, .int .i64 q'] 29))
  replace HB := Aside0.mk (below_alloc HB.out (.cells #[.int .i64 q, .int .i64 q'] 29))
  have HE := Aside0.mk (blk_at (w := X3) (.cells #[.int .i64 q, .int .i64 q'] 29))
  rw [hs0_t2_] at HE l2_t21 l3_t21
  clear hs0_t2_
  generalize X3.alloc (.cells #[.int .i64 q, .int .i64 q'] 29) = X4 at *
  refine (offline_Merge.calls k a0 a1 a2 aA aa a3 aB ab a4 a1 qA qa ql r0 r1 r2 r3 r4 sl s5 s6 _ (Kd.C_below HA3.out HB.out) ea3 (Kd.C_below HA4.out HB.out) ea4 (Kd.C_below HQL.out HB.out) eql HAW.out HQW.out P1.out).mono ?_
  rintro e w5 ⟨v3_, v4_, vs_, rfl, hv3_, hv4_, hvs_, hb⟩
  obtain ⟨rA, ra, rfl⟩ := Kd.V_slice hv3_
  obtain ⟨rB, rb, rfl⟩ := Kd.V_slice hv4_
  obtain ⟨sA, s_a, rfl⟩ := Kd.V_slice hvs_
  have HrV := Aside0.mk hv3_
  have HrW := Aside0.mk hv4_
  clear hv3_ hv4_ hvs_
  replace HA := Aside0.mk (blk_call HA.out hb)
  replace HV := Aside0.mk (blk_call HV.out hb)
  replace HE := Aside0.mk (blk_call HE.out hb)
  replace HvV := Aside0.mk (Kd.V_below HvV.out hb)
  replace HB := Aside0.mk (below_step HB.out hb)
  clear hb
  have kHE := bc0 HE.out
  have mHE := bc1 HE.out
  have nHE := bc2 HE.out
  have fHE := bf0 HE.out
  have yHE := blk_lt HE.out
  have kHV := bc0 HV.out
  have mHV := bc1 HV.out
  have nHV := bc2 HV.out
  have fHV := bf0 HV.out
  have yHV := blk_lt HV.out
  go_wp2
  go_ret
  exact ⟨rfl, below_alloc (below_alloc HB.out _) _⟩
set_option maxHeartbeats 4000000 in
set_option maxRecDepth 100000 in
theorem OffReports_b (k : Nat) (a0 a1 a2 : Int) (aA : Option Addr) (aa : Nat) (a3 : List (S55)) (aB : Option Addr) (ab : Nat) (a4 : List (S75)) (qA : Option Addr) (qa : Nat) (ql : List (S43)) (v0 : Int) (vs : List (S83)) (q q' : Int) (r0 r1 r2 : Int) (r3 : List (S55)) (r4 : List (S75)) (s5 s6 : Int) (sl : List (S68)) (w : World) (ha3 : Kd.C k55 w aA a3.length a3) (ea3 : a3.length ≤ aa) (ha4 : Kd.C k75 w aB a4.length a4) (ea4 : a4.length ≤ ab) (hql : Kd.C k43 w qA ql.length ql) (eql : ql.length ≤ qa) (hqw : ∀ q ∈ ql, (Lit.int .i64 q.f0).wf = true) (haw : mailbox_Validate.f k a0 a1 a2 a3 a4 = some (0, 0) → (Lit.int .i64 a1).wf = true) (hbx : ∀ w, Calls Tryd.prog 12 #[] w fun e w' => e = .returned (.bool true) ∧ Below w.heap.size w w') (o1 : views_Of.f k a0 a1 a2 a3 a4 = some (v0, vs, q, q')) (p1 : offline_Merge.f k a0 a1 a2 a3 a4 a1 ql = some (r0, r1, r2, r3, r4, sl, s5, s6)) (q1 : (q != 0) = false) (q2 : (s5 != 0) = true) :
    Calls Tryd.prog 6 #[.agg #[.int .i64 a0, .int .i64 a1, .int .i64 a2, .slice aA a3.length aa, .slice aB a4.length ab], .slice qA ql.length qa] w fun e w' => e = .returned (.bool true) ∧ Below w.heap.size w w' := by
  have HA3 := Aside0.mk ha3
  have HA4 := Aside0.mk ha4
  have HQL := Aside0.mk hql
  have HQW := Aside0.mk hqw
  have HAW := Aside0.mk haw
  have HBX := Aside0.mk hbx
  have O1 := Aside0.mk o1
  have P1 := Aside0.mk p1
  clear ha3 ha4 hql hqw haw hbx o1 p1
  have hu := Tryd.underlying25
  have hu2 := Tryd.underlying47
  have hfld := fieldFault_0
  have HB := Aside0.mk (below_alloc (Below.refl w.heap.size w) (.cells #[.int .i64 a0, .int .i64 a1, .int .i64 a2, .slice aA a3.length aa, .slice aB a4.length ab] 25))
  have HA := Aside0.mk (blk_at (w := w) (.cells #[.int .i64 a0, .int .i64 a1, .int .i64 a2, .slice aA a3.length aa, .slice aB a4.length ab] 25))
  go_enter Tryd.func6, Tryd.ntmps6
  go_wp2_with fail
  refine (HBX.out _).mono ?_
  rintro e w1 ⟨rfl, hb⟩
  replace HA := Aside0.mk (blk_call HA.out hb)
  replace HB := Aside0.mk (below_step HB.out hb)
  clear hb
  have kHA := bc0 HA.out
  have mHA := bc1 HA.out
  have nHA := bc2 HA.out
  have fHA := bf0 HA.out
  have yHA := blk_lt HA.out
  go_wp2_with fail
  clear kHA mHA nHA fHA yHA
  refine (views_Of.calls k a0 a1 a2 aA aa a3 aB ab a4 v0 vs q q' _ (Kd.C_below HA3.out HB.out) ea3 (Kd.C_below HA4.out HB.out) ea4 O1.out).mono ?_
  rintro e w2 ⟨v1_, rfl, hv1, hb⟩
  obtain ⟨vA, va, rfl⟩ := Kd.R_slice hv1
  have HvV := Aside0.mk (Kd.R_V (base' := 0) hv1)
  clear hv1
  replace HA := Aside0.mk (blk_call HA.out hb)
  replace HB := Aside0.mk (below_step HB.out hb)
  clear hb
  have kHA := bc0 HA.out
  have mHA := bc1 HA.out
  have nHA := bc2 HA.out
  have fHA := bf0 HA.out
  have yHA := blk_lt HA.out
  go_wp2_with fail
  clear kHA mHA nHA fHA yHA
  have l1_t2 := blk_lt HA.out
  replace HA := Aside0.mk (blk_later HA.out (.cells #[.int .i64 v0, (.slice vA vs.length va)] 47))
  replace HvV := Aside0.mk (Kd.V_alloc HvV.out (.cells #[.int .i64 v0, (.slice vA vs.length va)] 47))
  replace HB := Aside0.mk (below_alloc HB.out (.cells #[.int .i64 v0, (.slice vA vs.length va)] 47))
  have HV := Aside0.mk (blk_at (w := w2) (.cells #[.int .i64 v0, (.slice vA vs.length va)] 47))
  have hs0_t2_ : (w2.alloc (.cells #[.int .i64 v0, (.slice vA vs.length va)] 47)).heap.size = w2.heap.size + 1 := by simp
  generalize w2.alloc (.cells #[.int .i64 v0, (.slice vA vs.length va)] 47) = X3 at *
  generalize w2.heap.size = t2_ at *
  have l2_t21 := blk_lt HA.out
  have l3_t21 := blk_lt HV.out
  replace HA := Aside0.mk (blk_later HA.out (.cells #[.int .i64 q, .int .i64 q'] 29))
  replace HV := Aside0.mk (blk_later HV.out (.cells #[.int .i64 q, .int .i64 q'] 29))
  replace HvV := Aside0.mk (Kd.V_alloc HvV.out (.cells #[.int .i64 q, .int .i64 q'] 29))
  replace HB := Aside0.mk (below_alloc HB.out (.cells #[.int .i64 q, .int .i64 q'] 29))
  have HE := Aside0.mk (blk_at (w := X3) (.cells #[.int .i64 q, .int .i64 q'] 29))
  rw [hs0_t2_] at HE l2_t21 l3_t21
  clear hs0_t2_
  generalize X3.alloc (.cells #[.int .i64 q, .int .i64 q'] 29) = X4 at *
  refine (offline_Merge.calls k a0 a1 a2 aA aa a3 aB ab a4 a1 qA qa ql r0 r1 r2 r3 r4 sl s5 s6 _ (Kd.C_below HA3.out HB.out) ea3 (Kd.C_below HA4.out HB.out) ea4 (Kd.C_below HQL.out HB.out) eql HAW.out HQW.out P1.out).mono ?_
  rintro e w5 ⟨v3_, v4_, vs_, rfl, hv3_, hv4_, hvs_, hb⟩
  obtain ⟨rA, ra, rfl⟩ := Kd.V_slice hv3_
  obtain ⟨rB, rb, rfl⟩ := Kd.V_slice hv4_
  obtain ⟨sA, s_a, rfl⟩ := Kd.V_slice hvs_
  have HrV := Aside0.mk hv3_
  have HrW := Aside0.mk hv4_
  clear hv3_ hv4_ hvs_
  replace HA := Aside0.mk (blk_call HA.out hb)
  replace HV := Aside0.mk (blk_call HV.out hb)
  replace HE := Aside0.mk (blk_call HE.out hb)
  replace HvV := Aside0.mk (Kd.V_below HvV.out hb)
  replace HB := Aside0.mk (below_step HB.out hb)
  clear hb
  have kHE := bc0 HE.out
  have mHE := bc1 HE.out
  have nHE := bc2 HE.out
  have fHE := bf0 HE.out
  have yHE := blk_lt HE.out
  have kHV := bc0 HV.out
  have mHV := bc1 HV.out
  have nHV := bc2 HV.out
  have fHV := bf0 HV.out
  have yHV := blk_lt HV.out
  go_wp2
  go_ret
  exact ⟨rfl, below_alloc (below_alloc HB.out _) _⟩
set_option maxHeartbeats 4000000 in
set_option maxRecDepth 100000 in
theorem OffReports_c (k : Nat) (a0 a1 a2 : Int) (aA : Option Addr) (aa : Nat) (a3 : List (S55)) (aB : Option Addr) (ab : Nat) (a4 : List (S75)) (qA : Option Addr) (qa : Nat) (ql : List (S43)) (v0 : Int) (vs : List (S83)) (q q' : Int) (r0 r1 r2 : Int) (r3 : List (S55)) (r4 : List (S75)) (s5 s6 : Int) (sl : List (S68)) (w : World) (ha3 : Kd.C k55 w aA a3.length a3) (ea3 : a3.length ≤ aa) (ha4 : Kd.C k75 w aB a4.length a4) (ea4 : a4.length ≤ ab) (hql : Kd.C k43 w qA ql.length ql) (eql : ql.length ≤ qa) (hqw : ∀ q ∈ ql, (Lit.int .i64 q.f0).wf = true) (haw : mailbox_Validate.f k a0 a1 a2 a3 a4 = some (0, 0) → (Lit.int .i64 a1).wf = true) (hbx : ∀ w, Calls Tryd.prog 12 #[] w fun e w' => e = .returned (.bool true) ∧ Below w.heap.size w w') (o1 : views_Of.f k a0 a1 a2 a3 a4 = some (v0, vs, q, q')) (p1 : offline_Merge.f k a0 a1 a2 a3 a4 a1 ql = some (r0, r1, r2, r3, r4, sl, s5, s6)) (q1 : (q != 0) = false) (q2 : (s5 != 0) = false) (hln : sl.length = ql.length) (u0 : Int) (us : List (S83)) (an : Bool) (z y : Int) (g1 : resync_Catch.f k r0 r1 r2 r3 r4 v0 vs = some (u0, us, an, 0, z)) (g2 : views_Same.f k u0 us r0 r1 r2 r3 r4 = some (true, 0, y)) :
    Calls Tryd.prog 6 #[.agg #[.int .i64 a0, .int .i64 a1, .int .i64 a2, .slice aA a3.length aa, .slice aB a4.length ab], .slice qA ql.length qa] w fun e w' => e = .returned (.bool true) ∧ Below w.heap.size w w' := by
  have HA3 := Aside0.mk ha3
  have HA4 := Aside0.mk ha4
  have HQL := Aside0.mk hql
  have HQW := Aside0.mk hqw
  have HAW := Aside0.mk haw
  have HBX := Aside0.mk hbx
  have O1 := Aside0.mk o1
  have P1 := Aside0.mk p1
  have G1 := Aside0.mk g1
  have G2 := Aside0.mk g2
  clear ha3 ha4 hql hqw haw hbx o1 p1 g1 g2
  have hu := Tryd.underlying25
  have hu2 := Tryd.underlying47
  have hfld := fieldFault_0
  have HB := Aside0.mk (below_alloc (Below.refl w.heap.size w) (.cells #[.int .i64 a0, .int .i64 a1, .int .i64 a2, .slice aA a3.length aa, .slice aB a4.length ab] 25))
  have HA := Aside0.mk (blk_at (w := w) (.cells #[.int .i64 a0, .int .i64 a1, .int .i64 a2, .slice aA a3.length aa, .slice aB a4.length ab] 25))
  go_enter Tryd.func6, Tryd.ntmps6
  go_wp2_with fail
  refine (HBX.out _).mono ?_
  rintro e w1 ⟨rfl, hb⟩
  replace HA := Aside0.mk (blk_call HA.out hb)
  replace HB := Aside0.mk (below_step HB.out hb)
  clear hb
  have kHA := bc0 HA.out
  have mHA := bc1 HA.out
  have nHA := bc2 HA.out
  have fHA := bf0 HA.out
  have yHA := blk_lt HA.out
  go_wp2_with fail
  clear kHA mHA nHA fHA yHA
  refine (views_Of.calls k a0 a1 a2 aA aa a3 aB ab a4 v0 vs q q' _ (Kd.C_below HA3.out HB.out) ea3 (Kd.C_below HA4.out HB.out) ea4 O1.out).mono ?_
  rintro e w2 ⟨v1_, rfl, hv1, hb⟩
  obtain ⟨vA, va, rfl⟩ := Kd.R_slice hv1
  have HvV := Aside0.mk (Kd.R_V (base' := 0) hv1)
  clear hv1
  replace HA := Aside0.mk (blk_call HA.out hb)
  replace HB := Aside0.mk (below_step HB.out hb)
  clear hb
  have kHA := bc0 HA.out
  have mHA := bc1 HA.out
  have nHA := bc2 HA.out
  have fHA := bf0 HA.out
  have yHA := blk_lt HA.out
  go_wp2_with fail
  clear kHA mHA nHA fHA yHA
  have l1_t2 := blk_lt HA.out
  replace HA := Aside0.mk (blk_later HA.out (.cells #[.int .i64 v0, (.slice vA vs.length va)] 47))
  replace HvV := Aside0.mk (Kd.V_alloc HvV.out (.cells #[.int .i64 v0, (.slice vA vs.length va)] 47))
  replace HB := Aside0.mk (below_alloc HB.out (.cells #[.int .i64 v0, (.slice vA vs.length va)] 47))
  have HV := Aside0.mk (blk_at (w := w2) (.cells #[.int .i64 v0, (.slice vA vs.length va)] 47))
  have hs0_t2_ : (w2.alloc (.cells #[.int .i64 v0, (.slice vA vs.length va)] 47)).heap.size = w2.heap.size + 1 := by simp
  generalize w2.alloc (.cells #[.int .i64 v0, (.slice vA vs.length va)] 47) = X3 at *
  generalize w2.heap.size = t2_ at *
  have l2_t21 := blk_lt HA.out
  have l3_t21 := blk_lt HV.out
  replace HA := Aside0.mk (blk_later HA.out (.cells #[.int .i64 q, .int .i64 q'] 29))
  replace HV := Aside0.mk (blk_later HV.out (.cells #[.int .i64 q, .int .i64 q'] 29))
  replace HvV := Aside0.mk (Kd.V_alloc HvV.out (.cells #[.int .i64 q, .int .i64 q'] 29))
  replace HB := Aside0.mk (below_alloc HB.out (.cells #[.int .i64 q, .int .i64 q'] 29))
  have HE := Aside0.mk (blk_at (w := X3) (.cells #[.int .i64 q, .int .i64 q'] 29))
  rw [hs0_t2_] at HE l2_t21 l3_t21
  clear hs0_t2_
  generalize X3.alloc (.cells #[.int .i64 q, .int .i64 q'] 29) = X4 at *
  refine (offline_Merge.calls k a0 a1 a2 aA aa a3 aB ab a4 a1 qA qa ql r0 r1 r2 r3 r4 sl s5 s6 _ (Kd.C_below HA3.out HB.out) ea3 (Kd.C_below HA4.out HB.out) ea4 (Kd.C_below HQL.out HB.out) eql HAW.out HQW.out P1.out).mono ?_
  rintro e w5 ⟨v3_, v4_, vs_, rfl, hv3_, hv4_, hvs_, hb⟩
  obtain ⟨rA, ra, rfl⟩ := Kd.V_slice hv3_
  obtain ⟨rB, rb, rfl⟩ := Kd.V_slice hv4_
  obtain ⟨sA, s_a, rfl⟩ := Kd.V_slice hvs_
  have HrV := Aside0.mk hv3_
  have HrW := Aside0.mk hv4_
  clear hv3_ hv4_ hvs_
  replace HA := Aside0.mk (blk_call HA.out hb)
  replace HV := Aside0.mk (blk_call HV.out hb)
  replace HE := Aside0.mk (blk_call HE.out hb)
  replace HvV := Aside0.mk (Kd.V_below HvV.out hb)
  replace HB := Aside0.mk (below_step HB.out hb)
  clear hb
  have kHE := bc0 HE.out
  have mHE := bc1 HE.out
  have nHE := bc2 HE.out
  have fHE := bf0 HE.out
  have yHE := blk_lt HE.out
  have kHV := bc0 HV.out
  have mHV := bc1 HV.out
  have nHV := bc2 HV.out
  have fHV := bf0 HV.out
  have yHV := blk_lt HV.out
  go_wp2_with fail
  clear kHE mHE nHE fHE yHE kHV mHV nHV fHV yHV
  have l4_t5 := blk_lt HA.out
  have l5_t5 := blk_lt HV.out
  have l6_t5 := blk_lt HE.out
  replace HA := Aside0.mk (blk_later HA.out (.cells #[.int .i64 r0, .int .i64 r1, .int .i64 r2, .slice rA r3.length ra, .slice rB r4.length rb] 25))
  replace HV := Aside0.mk (blk_later HV.out (.cells #[.int .i64 r0, .int .i64 r1, .int .i64 r2, .slice rA r3.length ra, .slice rB r4.length rb] 25))
  replace HE := Aside0.mk (blk_later HE.out (.cells #[.int .i64 r0, .int .i64 r1, .int .i64 r2, .slice rA r3.length ra, .slice rB r4.length rb] 25))
  replace HvV := Aside0.mk (Kd.V_alloc HvV.out (.cells #[.int .i64 r0, .int .i64 r1, .int .i64 r2, .slice rA r3.length ra, .slice rB r4.length rb] 25))
  replace HrV := Aside0.mk (Kd.V_alloc HrV.out (.cells #[.int .i64 r0, .int .i64 r1, .int .i64 r2, .slice rA r3.length ra, .slice rB r4.length rb] 25))
  replace HrW := Aside0.mk (Kd.V_alloc HrW.out (.cells #[.int .i64 r0, .int .i64 r1, .int .i64 r2, .slice rA r3.length ra, .slice rB r4.length rb] 25))
  replace HB := Aside0.mk (below_alloc HB.out (.cells #[.int .i64 r0, .int .i64 r1, .int .i64 r2, .slice rA r3.length ra, .slice rB r4.length rb] 25))
  have HM := Aside0.mk (blk_at (w := w5) (.cells #[.int .i64 r0, .int .i64 r1, .int .i64 r2, .slice rA r3.length ra, .slice rB r4.length rb] 25))
  have hs0_t5_ : (w5.alloc (.cells #[.int .i64 r0, .int .i64 r1, .int .i64 r2, .slice rA r3.length ra, .slice rB r4.length rb] 25)).heap.size = w5.heap.size + 1 := by simp
  generalize w5.alloc (.cells #[.int .i64 r0, .int .i64 r1, .int .i64 r2, .slice rA r3.length ra, .slice rB r4.length rb] 25) = X6 at *
  generalize w5.heap.size = t5_ at *
  have l7_t51 := blk_lt HA.out
  have l8_t51 := blk_lt HV.out
  have l9_t51 := blk_lt HE.out
  have l10_t51 := blk_lt HM.out
  replace HA := Aside0.mk (blk_later HA.out (.cells #[.int .i64 s5, .int .i64 s6] 29))
  replace HV := Aside0.mk (blk_later HV.out (.cells #[.int .i64 s5, .int .i64 s6] 29))
  replace HE := Aside0.mk (blk_later HE.out (.cells #[.int .i64 s5, .int .i64 s6] 29))
  replace HM := Aside0.mk (blk_later HM.out (.cells #[.int .i64 s5, .int .i64 s6] 29))
  replace HvV := Aside0.mk (Kd.V_alloc HvV.out (.cells #[.int .i64 s5, .int .i64 s6] 29))
  replace HrV := Aside0.mk (Kd.V_alloc HrV.out (.cells #[.int .i64 s5, .int .i64 s6] 29))
  replace HrW := Aside0.mk (Kd.V_alloc HrW.out (.cells #[.int .i64 s5, .int .i64 s6] 29))
  replace HB := Aside0.mk (below_alloc HB.out (.cells #[.int .i64 s5, .int .i64 s6] 29))
  have HG := Aside0.mk (blk_at (w := X6) (.cells #[.int .i64 s5, .int .i64 s6] 29))
  rw [hs0_t5_] at HG l7_t51 l8_t51 l9_t51 l10_t51
  clear hs0_t5_
  generalize X6.alloc (.cells #[.int .i64 s5, .int .i64 s6] 29) = X7 at *
  refine (resync_Catch.calls k r0 r1 r2 rA ra r3 rB rb r4 v0 vA va vs u0 us an 0 z _ (Kd.F_now (Kd.V_F HrV.out)) (Kd.V_at HrV.out).2.1 (Kd.F_now (Kd.V_F HrW.out)) (Kd.V_at HrW.out).2.1 (Kd.F_now (Kd.V_F HvV.out)) (Kd.V_at HvV.out).2.1 G1.out).mono ?_
  rintro e w8 ⟨v1_, rfl, hv1, hb⟩
  obtain ⟨uA, ua, rfl⟩ := Kd.R_slice hv1
  have HuV := Aside0.mk (Kd.R_V (base' := 0) hv1)
  clear hv1
  replace HA := Aside0.mk (blk_call HA.out hb)
  replace HV := Aside0.mk (blk_call HV.out hb)
  replace HE := Aside0.mk (blk_call HE.out hb)
  replace HM := Aside0.mk (blk_call HM.out hb)
  replace HG := Aside0.mk (blk_call HG.out hb)
  replace HvV := Aside0.mk (Kd.V_below HvV.out hb)
  replace HrV := Aside0.mk (Kd.V_below HrV.out hb)
  replace HrW := Aside0.mk (Kd.V_below HrW.out hb)
  replace HB := Aside0.mk (below_step HB.out hb)
  clear hb
  clear HvV
  have kHM := bc0 HM.out
  have mHM := bc1 HM.out
  have nHM := bc2 HM.out
  have fHM := bf0 HM.out
  have yHM := blk_lt HM.out
  go_wp2_with fail
  clear kHM mHM nHM fHM yHM
  have l11_t8 := blk_lt HA.out
  have l12_t8 := blk_lt HV.out
  have l13_t8 := blk_lt HE.out
  have l14_t8 := blk_lt HM.out
  have l15_t8 := blk_lt HG.out
  replace HA := Aside0.mk (blk_later HA.out (.cells #[.int .i64 u0, (.slice uA us.length ua)] 47))
  replace HV := Aside0.mk (blk_later HV.out (.cells #[.int .i64 u0, (.slice uA us.length ua)] 47))
  replace HE := Aside0.mk (blk_later HE.out (.cells #[.int .i64 u0, (.slice uA us.length ua)] 47))
  replace HM := Aside0.mk (blk_later HM.out (.cells #[.int .i64 u0, (.slice uA us.length ua)] 47))
  replace HG := Aside0.mk (blk_later HG.out (.cells #[.int .i64 u0, (.slice uA us.length ua)] 47))
  replace HrV := Aside0.mk (Kd.V_alloc HrV.out (.cells #[.int .i64 u0, (.slice uA us.length ua)] 47))
  replace HrW := Aside0.mk (Kd.V_alloc HrW.out (.cells #[.int .i64 u0, (.slice uA us.length ua)] 47))
  replace HuV := Aside0.mk (Kd.V_alloc HuV.out (.cells #[.int .i64 u0, (.slice uA us.length ua)] 47))
  replace HB := Aside0.mk (below_alloc HB.out (.cells #[.int .i64 u0, (.slice uA us.length ua)] 47))
  have HU := Aside0.mk (blk_at (w := w8) (.cells #[.int .i64 u0, (.slice uA us.length ua)] 47))
  have hs0_t8_ : (w8.alloc (.cells #[.int .i64 u0, (.slice uA us.length ua)] 47)).heap.size = w8.heap.size + 1 := by simp
  generalize w8.alloc (.cells #[.int .i64 u0, (.slice uA us.length ua)] 47) = X9 at *
  generalize w8.heap.size = t8_ at *
  have l16_t81 := blk_lt HA.out
  have l17_t81 := blk_lt HV.out
  have l18_t81 := blk_lt HE.out
  have l19_t81 := blk_lt HM.out
  have l20_t81 := blk_lt HG.out
  have l21_t81 := blk_lt HU.out
  replace HA := Aside0.mk (blk_later HA.out (.cells #[.int .i64 0, .int .i64 z] 29))
  replace HV := Aside0.mk (blk_later HV.out (.cells #[.int .i64 0, .int .i64 z] 29))
  replace HE := Aside0.mk (blk_later HE.out (.cells #[.int .i64 0, .int .i64 z] 29))
  replace HM := Aside0.mk (blk_later HM.out (.cells #[.int .i64 0, .int .i64 z] 29))
  replace HG := Aside0.mk (blk_later HG.out (.cells #[.int .i64 0, .int .i64 z] 29))
  replace HU := Aside0.mk (blk_later HU.out (.cells #[.int .i64 0, .int .i64 z] 29))
  replace HrV := Aside0.mk (Kd.V_alloc HrV.out (.cells #[.int .i64 0, .int .i64 z] 29))
  replace HrW := Aside0.mk (Kd.V_alloc HrW.out (.cells #[.int .i64 0, .int .i64 z] 29))
  replace HuV := Aside0.mk (Kd.V_alloc HuV.out (.cells #[.int .i64 0, .int .i64 z] 29))
  replace HB := Aside0.mk (below_alloc HB.out (.cells #[.int .i64 0, .int .i64 z] 29))
  have HC := Aside0.mk (blk_at (w := X9) (.cells #[.int .i64 0, .int .i64 z] 29))
  rw [hs0_t8_] at HC l16_t81 l17_t81 l18_t81 l19_t81 l20_t81 l21_t81
  clear hs0_t8_
  generalize X9.alloc (.cells #[.int .i64 0, .int .i64 z] 29) = X10 at *
  refine (views_Same.calls k u0 uA ua us r0 r1 r2 rA ra r3 rB rb r4 true 0 y _ (Kd.F_now (Kd.V_F HuV.out)) (Kd.V_at HuV.out).2.1 (Kd.F_now (Kd.V_F HrV.out)) (Kd.V_at HrV.out).2.1 (Kd.F_now (Kd.V_F HrW.out)) (Kd.V_at HrW.out).2.1 G2.out).mono ?_
  rintro e w11 ⟨rfl, hb⟩
  replace HA := Aside0.mk (blk_call HA.out hb)
  replace HV := Aside0.mk (blk_call HV.out hb)
  replace HE := Aside0.mk (blk_call HE.out hb)
  replace HM := Aside0.mk (blk_call HM.out hb)
  replace HG := Aside0.mk (blk_call HG.out hb)
  replace HU := Aside0.mk (blk_call HU.out hb)
  replace HC := Aside0.mk (blk_call HC.out hb)
  replace HrV := Aside0.mk (Kd.V_below HrV.out hb)
  replace HrW := Aside0.mk (Kd.V_below HrW.out hb)
  replace HuV := Aside0.mk (Kd.V_below HuV.out hb)
  replace HB := Aside0.mk (below_step HB.out hb)
  clear hb
  have hlni : ((sl.length : Int) == (ql.length : Int)) = true := beq_iff_eq.2 (by rw [hln])
  have kHC := bc0 HC.out
  have mHC := bc1 HC.out
  have nHC := bc2 HC.out
  have fHC := bf0 HC.out
  have yHC := blk_lt HC.out
  go_wp2
  go_ret
  exact ⟨rfl, below_alloc HB.out _⟩


end Go.Proofs.YtbnmddippoiabaaDoor.P
