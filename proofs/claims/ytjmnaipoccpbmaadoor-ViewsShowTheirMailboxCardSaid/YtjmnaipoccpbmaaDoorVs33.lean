/- Several texts in one, each in its own section. The last: Functions of this seat as Lean functions, and that the Go code comes to their answers: written by a program of this session's. -/
import Derived.Test.YtjmnaipoccpbmaaDoorVs10
import Derived.Test.YtjmnaipoccpbmaaDoorVs19
import Derived.Test.YtjmnaipoccpbmaaDoorVs25
import Derived.Test.YtjmnaipoccpbmaaDoorVs32
import Derived.Test.YtjmnaipoccpbmaaDoorVs28
import Derived.Test.YtjmnaipoccpbmaaDoorVs31
/- Functions of this seat as Lean functions, and that the Go code comes to their answers: written by a program of this session's. -/
section
namespace Go.Proofs.YtjmnaipoccpbmaaDoor.P
open Go.RowKit Go.Proofs.YtjmnaipoccpbmaaDoorW.PrintWords Go.Proofs.YtjmnaipoccpbmaaDoorW.PrintLast Go.Proofs.YtjmnaipoccpbmaaDoorW.PrintMore
attribute [local go_sem] max2_int min2_int max_two min_two max_three min_three max_four min_four   -- for this text's walks alone
set_option linter.unusedVariables false
set_option linter.unusedSimpArgs false

/-! ### posthouselaw8_ViewsShowTheirMailbox: function 3 -/
set_option maxHeartbeats 4000000 in
set_option maxRecDepth 100000 in
theorem ViewsShow_a (k : Nat) (a0 a1 a2 : Int) (aA : Option Addr) (aa : Nat) (a3 : List (S78)) (aB : Option Addr) (ab : Nat) (a4 : List (S73)) (xA : Option Addr) (xa : Nat) (x5 : List (S99)) (xB : Option Addr) (xb : Nat) (x6 : List Int) (v0 : Int) (vs : List (S58)) (q q' : Int) (o : Bool) (f f' : Int)  (w : World) (ha3 : Kd.C k78 w aA a3.length a3) (ea3 : a3.length ≤ aa) (ha4 : Kd.C k73 w aB a4.length a4) (ea4 : a4.length ≤ ab) (hx5 : Kd.C k99 w xA x5.length x5) (ex5 : x5.length ≤ xa) (hx6 : Kd.C (Kd.int .u8) w xB x6.length x6) (ex6 : x6.length ≤ xb) (hbx : ∀ w, Calls Tryd.prog 6 #[] w fun e w' => e = .returned (.bool true) ∧ Below w.heap.size w w') (o1 : views_Of.f k a0 a1 a2 a3 a4 = some (v0, vs, q, q')) (u1 : views_Same.f k v0 vs a0 a1 a2 a3 a4 = some (o, f, f')) (p1 : posthouseref8_SameView.f k 0 [] 0 [] = some true) (q1 : (q != 0) = true) (q2 : v0 = 0) (q3 : vs = []) :
    Calls Tryd.prog 3 #[.agg #[.int .i64 a0, .int .i64 a1, .int .i64 a2, .slice aA a3.length aa, .slice aB a4.length ab], .agg #[.slice xA x5.length xa, .slice xB x6.length xb]] w fun e w' => e = .returned (.bool true) ∧ Below w.heap.size w w' := by
  have HA3 := Aside0.mk ha3
  have HA4 := Aside0.mk ha4
  have HX5 := Aside0.mk hx5
  have HX6 := Aside0.mk hx6
  have HBX := Aside0.mk hbx
  have O1 := Aside0.mk o1
  have U1 := Aside0.mk u1
  have P1 := Aside0.mk p1
  clear ha3 ha4 hx5 hx6 hbx o1 u1 p1
  subst q2 q3
  have n0 : ([] : List (S58)).length = 0 := rfl
  have hu := Tryd.underlying25
  have hu2 := Tryd.underlying33
  have huc := Tryd.underlying44
  have hfld := fieldFault_0
  have HB := Aside0.mk (below_alloc (below_alloc (Below.refl w.heap.size w) (.cells #[.int .i64 a0, .int .i64 a1, .int .i64 a2, .slice aA a3.length aa, .slice aB a4.length ab] 25)) (.cells #[.slice xA x5.length xa, .slice xB x6.length xb] 29))
  have HA := Aside0.mk (blk_later (blk_at (w := w) (.cells #[.int .i64 a0, .int .i64 a1, .int .i64 a2, .slice aA a3.length aa, .slice aB a4.length ab] 25)) (.cells #[.slice xA x5.length xa, .slice xB x6.length xb] 29))
  have HX := Aside0.mk (blk_at1 (w := w) (.cells #[.int .i64 a0, .int .i64 a1, .int .i64 a2, .slice aA a3.length aa, .slice aB a4.length ab] 25) (.cells #[.slice xA x5.length xa, .slice xB x6.length xb] 29))
  go_enter Tryd.func3, Tryd.ntmps3
  go_wp2_with fail
  refine (HBX.out _).mono ?_
  rintro e w1 ⟨rfl, hb⟩
  replace HA := Aside0.mk (blk_call HA.out hb)
  replace HX := Aside0.mk (blk_call HX.out hb)
  replace HB := Aside0.mk (below_step HB.out hb)
  clear hb
  have kHA := bc0 HA.out
  have mHA := bc1 HA.out
  have nHA := bc2 HA.out
  have fHA := bf0 HA.out
  have yHA := blk_lt HA.out
  go_wp2_with fail
  clear kHA mHA nHA fHA yHA
  refine (views_Of.calls k a0 a1 a2 aA aa a3 aB ab a4 0 [] q q' _ (Kd.C_below HA3.out HB.out) ea3 (Kd.C_below HA4.out HB.out) ea4 O1.out).mono ?_
  rintro e w2 ⟨v1_, rfl, hv1, hb⟩
  obtain ⟨vA, va, rfl⟩ := Kd.R_slice hv1
  have HvV := Aside0.mk (Kd.R_V (base' := 0) hv1)
  clear hv1
  replace HA := Aside0.mk (blk_call HA.out hb)
  replace HX := Aside0.mk (blk_call HX.out hb)
  replace HB := Aside0.mk (below_step HB.out hb)
  clear hb
  have kHA := bc0 HA.out
  have mHA := bc1 HA.out
  have nHA := bc2 HA.out
  have fHA := bf0 HA.out
  have yHA := blk_lt HA.out
  go_wp2_with fail
  clear kHA mHA nHA fHA yHA
  have l1_t2 := blk_lt HA.out
  have l2_t2 := blk_lt HX.out
  replace HA := Aside0.mk (blk_later HA.out (.cells #[.int .i64 0, (.slice vA 0 va)] 33))
  replace HX := Aside0.mk (blk_later HX.out (.cells #[.int .i64 0, (.slice vA 0 va)] 33))
  replace HvV := Aside0.mk (Kd.V_alloc HvV.out (.cells #[.int .i64 0, (.slice vA 0 va)] 33))
  replace HB := Aside0.mk (below_alloc HB.out (.cells #[.int .i64 0, (.slice vA 0 va)] 33))
  have HV := Aside0.mk (blk_at (w := w2) (.cells #[.int .i64 0, (.slice vA 0 va)] 33))
  have hs0_t2_ : (w2.alloc (.cells #[.int .i64 0, (.slice vA 0 va)] 33)).heap.size = w2.heap.size + 1 := by simp
  generalize w2.alloc (.cells #[.int .i64 0, (.slice vA 0 va)] 33) = X3 at *
  generalize w2.heap.size = t2_ at *
  have l3_t21 := blk_lt HA.out
  have l4_t21 := blk_lt HX.out
  have l5_t21 := blk_lt HV.out
  replace HA := Aside0.mk (blk_later HA.out (.cells #[.int .i64 q, .int .i64 q'] 35))
  replace HX := Aside0.mk (blk_later HX.out (.cells #[.int .i64 q, .int .i64 q'] 35))
  replace HV := Aside0.mk (blk_later HV.out (.cells #[.int .i64 q, .int .i64 q'] 35))
  replace HvV := Aside0.mk (Kd.V_alloc HvV.out (.cells #[.int .i64 q, .int .i64 q'] 35))
  replace HB := Aside0.mk (below_alloc HB.out (.cells #[.int .i64 q, .int .i64 q'] 35))
  have HE := Aside0.mk (blk_at (w := X3) (.cells #[.int .i64 q, .int .i64 q'] 35))
  rw [hs0_t2_] at HE l3_t21 l4_t21 l5_t21
  clear hs0_t2_
  generalize X3.alloc (.cells #[.int .i64 q, .int .i64 q'] 35) = X4 at *
  refine (views_Same.calls k 0 vA va [] a0 a1 a2 aA aa a3 aB ab a4 o f f' _ (Kd.F_now (Kd.V_F HvV.out)) (Kd.V_at HvV.out).2.1 (Kd.C_below HA3.out HB.out) ea3 (Kd.C_below HA4.out HB.out) ea4 U1.out).mono ?_
  rintro e w5 ⟨rfl, hb⟩
  replace HA := Aside0.mk (blk_call HA.out hb)
  replace HX := Aside0.mk (blk_call HX.out hb)
  replace HV := Aside0.mk (blk_call HV.out hb)
  replace HE := Aside0.mk (blk_call HE.out hb)
  replace HvV := Aside0.mk (Kd.V_below HvV.out hb)
  replace HB := Aside0.mk (below_step HB.out hb)
  clear hb
  have kHE := bc0 HE.out
  have mHE := bc1 HE.out
  have nHE := bc2 HE.out
  have fHE := bf0 HE.out
  have yHE := blk_lt HE.out
  have kHV := bc0 HV.out
  have mHV := bc1 HV.out
  have nHV := bc2 HV.out
  have fHV := bf0 HV.out
  have yHV := blk_lt HV.out
  have kHA := bc0 HA.out
  have mHA := bc1 HA.out
  have nHA := bc2 HA.out
  have fHA := bf0 HA.out
  have yHA := blk_lt HA.out
  have kHX := bc0 HX.out
  have mHX := bc1 HX.out
  have nHX := bc2 HX.out
  have fHX := bf0 HX.out
  have yHX := blk_lt HX.out
  go_wp2_with fail
  clear kHE mHE nHE fHE yHE kHV mHV nHV fHV yHV kHA mHA nHA fHA yHA kHX mHX nHX fHX yHX
  have l6_t5 := blk_lt HA.out
  have l7_t5 := blk_lt HX.out
  have l8_t5 := blk_lt HV.out
  have l9_t5 := blk_lt HE.out
  replace HA := Aside0.mk (blk_later HA.out (.cells #[.int .i64 f, .int .i64 f'] 35))
  replace HX := Aside0.mk (blk_later HX.out (.cells #[.int .i64 f, .int .i64 f'] 35))
  replace HV := Aside0.mk (blk_later HV.out (.cells #[.int .i64 f, .int .i64 f'] 35))
  replace HE := Aside0.mk (blk_later HE.out (.cells #[.int .i64 f, .int .i64 f'] 35))
  replace HvV := Aside0.mk (Kd.V_alloc HvV.out (.cells #[.int .i64 f, .int .i64 f'] 35))
  replace HB := Aside0.mk (below_alloc HB.out (.cells #[.int .i64 f, .int .i64 f'] 35))
  have HG := Aside0.mk (blk_at (w := w5) (.cells #[.int .i64 f, .int .i64 f'] 35))
  have hs5 : (w5.alloc (.cells #[.int .i64 f, .int .i64 f'] 35)).heap.size = w5.heap.size + 1 := by simp
  generalize w5.alloc (.cells #[.int .i64 f, .int .i64 f'] 35) = X6 at *
  generalize w5.heap.size = t5_ at *
  refine (posthouseref8_SameView.calls k 0 vA va [] 0 none 0 [] true _ (Kd.F_now (Kd.V_F HvV.out)) (Kd.V_at HvV.out).2.1 (Kd.C_nil k58 _) (Nat.le_refl _) P1.out).mono ?_
  rintro e w7 ⟨rfl, hb⟩
  replace HA := Aside0.mk (blk_call HA.out hb)
  replace HX := Aside0.mk (blk_call HX.out hb)
  replace HV := Aside0.mk (blk_call HV.out hb)
  replace HE := Aside0.mk (blk_call HE.out hb)
  replace HG := Aside0.mk (blk_call HG.out hb)
  replace HvV := Aside0.mk (Kd.V_below HvV.out hb)
  replace HB := Aside0.mk (below_step HB.out hb)
  clear hb
  go_wp2
  go_ret
  exact ⟨rfl, HB.out⟩
set_option maxHeartbeats 4000000 in
set_option maxRecDepth 100000 in
theorem ViewsShow_b (k : Nat) (a0 a1 a2 : Int) (aA : Option Addr) (aa : Nat) (a3 : List (S78)) (aB : Option Addr) (ab : Nat) (a4 : List (S73)) (xA : Option Addr) (xa : Nat) (x5 : List (S99)) (xB : Option Addr) (xb : Nat) (x6 : List Int) (v0 : Int) (vs : List (S58)) (q q' : Int) (o : Bool) (f f' : Int) (r0 r1 r2 : Int) (r3 : List (S78)) (r4 : List (S73)) (s5 s6 : Int) (w : World) (ha3 : Kd.C k78 w aA a3.length a3) (ea3 : a3.length ≤ aa) (ha4 : Kd.C k73 w aB a4.length a4) (ea4 : a4.length ≤ ab) (hx5 : Kd.C k99 w xA x5.length x5) (ex5 : x5.length ≤ xa) (hx6 : Kd.C (Kd.int .u8) w xB x6.length x6) (ex6 : x6.length ≤ xb) (hbx : ∀ w, Calls Tryd.prog 6 #[] w fun e w' => e = .returned (.bool true) ∧ Below w.heap.size w w') (o1 : views_Of.f k a0 a1 a2 a3 a4 = some (v0, vs, q, q')) (u1 : views_Same.f k v0 vs a0 a1 a2 a3 a4 = some (o, f, f')) (p1 : mailbox_Apply.f k a0 a1 a2 a3 a4 1 0 0 0 0 x5 x6 = some (r0, r1, r2, r3, r4, s5, s6)) (q1 : (q != 0) = false) (q2 : (s5 != 0) = true) (q3 : (f == 0) = true) (q4 : o = true) :
    Calls Tryd.prog 3 #[.agg #[.int .i64 a0, .int .i64 a1, .int .i64 a2, .slice aA a3.length aa, .slice aB a4.length ab], .agg #[.slice xA x5.length xa, .slice xB x6.length xb]] w fun e w' => e = .returned (.bool true) ∧ Below w.heap.size w w' := by
  have HA3 := Aside0.mk ha3
  have HA4 := Aside0.mk ha4
  have HX5 := Aside0.mk hx5
  have HX6 := Aside0.mk hx6
  have HBX := Aside0.mk hbx
  have O1 := Aside0.mk o1
  have U1 := Aside0.mk u1
  have P1 := Aside0.mk p1
  clear ha3 ha4 hx5 hx6 hbx o1 u1 p1
  subst q4
  have hu := Tryd.underlying25
  have hu2 := Tryd.underlying33
  have huc := Tryd.underlying44
  have hfld := fieldFault_0
  have HB := Aside0.mk (below_alloc (below_alloc (Below.refl w.heap.size w) (.cells #[.int .i64 a0, .int .i64 a1, .int .i64 a2, .slice aA a3.length aa, .slice aB a4.length ab] 25)) (.cells #[.slice xA x5.length xa, .slice xB x6.length xb] 29))
  have HA := Aside0.mk (blk_later (blk_at (w := w) (.cells #[.int .i64 a0, .int .i64 a1, .int .i64 a2, .slice aA a3.length aa, .slice aB a4.length ab] 25)) (.cells #[.slice xA x5.length xa, .slice xB x6.length xb] 29))
  have HX := Aside0.mk (blk_at1 (w := w) (.cells #[.int .i64 a0, .int .i64 a1, .int .i64 a2, .slice aA a3.length aa, .slice aB a4.length ab] 25) (.cells #[.slice xA x5.length xa, .slice xB x6.length xb] 29))
  go_enter Tryd.func3, Tryd.ntmps3
  go_wp2_with fail
  refine (HBX.out _).mono ?_
  rintro e w1 ⟨rfl, hb⟩
  replace HA := Aside0.mk (blk_call HA.out hb)
  replace HX := Aside0.mk (blk_call HX.out hb)
  replace HB := Aside0.mk (below_step HB.out hb)
  clear hb
  have kHA := bc0 HA.out
  have mHA := bc1 HA.out
  have nHA := bc2 HA.out
  have fHA := bf0 HA.out
  have yHA := blk_lt HA.out
  go_wp2_with fail
  clear kHA mHA nHA fHA yHA
  refine (views_Of.calls k a0 a1 a2 aA aa a3 aB ab a4 v0 vs q q' _ (Kd.C_below HA3.out HB.out) ea3 (Kd.C_below HA4.out HB.out) ea4 O1.out).mono ?_
  rintro e w2 ⟨v1_, rfl, hv1, hb⟩
  obtain ⟨vA, va, rfl⟩ := Kd.R_slice hv1
  have HvV := Aside0.mk (Kd.R_V (base' := 0) hv1)
  clear hv1
  replace HA := Aside0.mk (blk_call HA.out hb)
  replace HX := Aside0.mk (blk_call HX.out hb)
  replace HB := Aside0.mk (below_step HB.out hb)
  clear hb
  have kHA := bc0 HA.out
  have mHA := bc1 HA.out
  have nHA := bc2 HA.out
  have fHA := bf0 HA.out
  have yHA := blk_lt HA.out
  go_wp2_with fail
  clear kHA mHA nHA fHA yHA
  have l1_t2 := blk_lt HA.out
  have l2_t2 := blk_lt HX.out
  replace HA := Aside0.mk (blk_later HA.out (.cells #[.int .i64 v0, (.slice vA vs.length va)] 33))
  replace HX := Aside0.mk (blk_later HX.out (.cells #[.int .i64 v0, (.slice vA vs.length va)] 33))
  replace HvV := Aside0.mk (Kd.V_alloc HvV.out (.cells #[.int .i64 v0, (.slice vA vs.length va)] 33))
  replace HB := Aside0.mk (below_alloc HB.out (.cells #[.int .i64 v0, (.slice vA vs.length va)] 33))
  have HV := Aside0.mk (blk_at (w := w2) (.cells #[.int .i64 v0, (.slice vA vs.length va)] 33))
  have hs0_t2_ : (w2.alloc (.cells #[.int .i64 v0, (.slice vA vs.length va)] 33)).heap.size = w2.heap.size + 1 := by simp
  generalize w2.alloc (.cells #[.int .i64 v0, (.slice vA vs.length va)] 33) = X3 at *
  generalize w2.heap.size = t2_ at *
  have l3_t21 := blk_lt HA.out
  have l4_t21 := blk_lt HX.out
  have l5_t21 := blk_lt HV.out
  replace HA := Aside0.mk (blk_later HA.out (.cells #[.int .i64 q, .int .i64 q'] 35))
  replace HX := Aside0.mk (blk_later HX.out (.cells #[.int .i64 q, .int .i64 q'] 35))
  replace HV := Aside0.mk (blk_later HV.out (.cells #[.int .i64 q, .int .i64 q'] 35))
  replace HvV := Aside0.mk (Kd.V_alloc HvV.out (.cells #[.int .i64 q, .int .i64 q'] 35))
  replace HB := Aside0.mk (below_alloc HB.out (.cells #[.int .i64 q, .int .i64 q'] 35))
  have HE := Aside0.mk (blk_at (w := X3) (.cells #[.int .i64 q, .int .i64 q'] 35))
  rw [hs0_t2_] at HE l3_t21 l4_t21 l5_t21
  clear hs0_t2_
  generalize X3.alloc (.cells #[.int .i64 q, .int .i64 q'] 35) = X4 at *
  refine (views_Same.calls k v0 vA va vs a0 a1 a2 aA aa a3 aB ab a4 true f f' _ (Kd.F_now (Kd.V_F HvV.out)) (Kd.V_at HvV.out).2.1 (Kd.C_below HA3.out HB.out) ea3 (Kd.C_below HA4.out HB.out) ea4 U1.out).mono ?_
  rintro e w5 ⟨rfl, hb⟩
  replace HA := Aside0.mk (blk_call HA.out hb)
  replace HX := Aside0.mk (blk_call HX.out hb)
  replace HV := Aside0.mk (blk_call HV.out hb)
  replace HE := Aside0.mk (blk_call HE.out hb)
  replace HvV := Aside0.mk (Kd.V_below HvV.out hb)
  replace HB := Aside0.mk (below_step HB.out hb)
  clear hb
  have kHE := bc0 HE.out
  have mHE := bc1 HE.out
  have nHE := bc2 HE.out
  have fHE := bf0 HE.out
  have yHE := blk_lt HE.out
  have kHV := bc0 HV.out
  have mHV := bc1 HV.out
  have nHV := bc2 HV.out
  have fHV := bf0 HV.out
  have yHV := blk_lt HV.out
  have kHA := bc0 HA.out
  have mHA := bc1 HA.out
  have nHA := bc2 HA.out
  have fHA := bf0 HA.out
  have yHA := blk_lt HA.out
  have kHX := bc0 HX.out
  have mHX := bc1 HX.out
  have nHX := bc2 HX.out
  have fHX := bf0 HX.out
  have yHX := blk_lt HX.out
  go_wp2_with fail
  clear kHE mHE nHE fHE yHE kHV mHV nHV fHV yHV kHA mHA nHA fHA yHA kHX mHX nHX fHX yHX
  have l6_t5 := blk_lt HA.out
  have l7_t5 := blk_lt HX.out
  have l8_t5 := blk_lt HV.out
  have l9_t5 := blk_lt HE.out
  replace HA := Aside0.mk (blk_later HA.out (.cells #[.int .i64 f, .int .i64 f'] 35))
  replace HX := Aside0.mk (blk_later HX.out (.cells #[.int .i64 f, .int .i64 f'] 35))
  replace HV := Aside0.mk (blk_later HV.out (.cells #[.int .i64 f, .int .i64 f'] 35))
  replace HE := Aside0.mk (blk_later HE.out (.cells #[.int .i64 f, .int .i64 f'] 35))
  replace HvV := Aside0.mk (Kd.V_alloc HvV.out (.cells #[.int .i64 f, .int .i64 f'] 35))
  replace HB := Aside0.mk (below_alloc HB.out (.cells #[.int .i64 f, .int .i64 f'] 35))
  have HG := Aside0.mk (blk_at (w := w5) (.cells #[.int .i64 f, .int .i64 f'] 35))
  have hs5 : (w5.alloc (.cells #[.int .i64 f, .int .i64 f'] 35)).heap.size = w5.heap.size + 1 := by simp
  generalize w5.alloc (.cells #[.int .i64 f, .int .i64 f'] 35) = X6 at *
  generalize w5.heap.size = t5_ at *
  refine (mailbox_Apply.calls k a0 a1 a2 aA aa a3 aB ab a4 1 0 0 0 0 xA xa x5 xB xb x6 r0 r1 r2 r3 r4 s5 s6 _ (Kd.C_below HA3.out HB.out) ea3 (Kd.C_below HA4.out HB.out) ea4 (Kd.C_below HX5.out HB.out) ex5 (Kd.C_below HX6.out HB.out) ex6 P1.out).mono ?_
  rintro e w7 ⟨v3_, v4_, rfl, hv3_, hv4_, hb⟩
  obtain ⟨rA, ra, rfl⟩ := Kd.V_slice hv3_
  obtain ⟨rB, rb, rfl⟩ := Kd.V_slice hv4_
  have HrV := Aside0.mk hv3_
  have HrW := Aside0.mk hv4_
  clear hv3_ hv4_
  replace HA := Aside0.mk (blk_call HA.out hb)
  replace HX := Aside0.mk (blk_call HX.out hb)
  replace HV := Aside0.mk (blk_call HV.out hb)
  replace HE := Aside0.mk (blk_call HE.out hb)
  replace HG := Aside0.mk (blk_call HG.out hb)
  replace HvV := Aside0.mk (Kd.V_below HvV.out hb)
  replace HB := Aside0.mk (below_step HB.out hb)
  clear hb
  have kHG := bc0 HG.out
  have mHG := bc1 HG.out
  have nHG := bc2 HG.out
  have fHG := bf0 HG.out
  have yHG := blk_lt HG.out
  go_wp2
  go_ret
  exact ⟨rfl, below_alloc (below_alloc HB.out _) _⟩
set_option maxHeartbeats 4000000 in
set_option maxRecDepth 100000 in
theorem ViewsShow_c (k : Nat) (a0 a1 a2 : Int) (aA : Option Addr) (aa : Nat) (a3 : List (S78)) (aB : Option Addr) (ab : Nat) (a4 : List (S73)) (xA : Option Addr) (xa : Nat) (x5 : List (S99)) (xB : Option Addr) (xb : Nat) (x6 : List Int) (v0 : Int) (vs : List (S58)) (q q' : Int) (o : Bool) (f f' : Int) (r0 r1 r2 : Int) (r3 : List (S78)) (r4 : List (S73)) (s5 s6 : Int) (w : World) (ha3 : Kd.C k78 w aA a3.length a3) (ea3 : a3.length ≤ aa) (ha4 : Kd.C k73 w aB a4.length a4) (ea4 : a4.length ≤ ab) (hx5 : Kd.C k99 w xA x5.length x5) (ex5 : x5.length ≤ xa) (hx6 : Kd.C (Kd.int .u8) w xB x6.length x6) (ex6 : x6.length ≤ xb) (hbx : ∀ w, Calls Tryd.prog 6 #[] w fun e w' => e = .returned (.bool true) ∧ Below w.heap.size w w') (o1 : views_Of.f k a0 a1 a2 a3 a4 = some (v0, vs, q, q')) (u1 : views_Same.f k v0 vs a0 a1 a2 a3 a4 = some (o, f, f')) (p1 : mailbox_Apply.f k a0 a1 a2 a3 a4 1 0 0 0 0 x5 x6 = some (r0, r1, r2, r3, r4, s5, s6)) (q1 : (q != 0) = false) (q2 : (s5 != 0) = false) (q3 : (f == 0) = true) (q4 : o = true) (y : Int) (u2 : views_Same.f k v0 vs r0 r1 r2 r3 r4 = some (false, 0, y)) :
    Calls Tryd.prog 3 #[.agg #[.int .i64 a0, .int .i64 a1, .int .i64 a2, .slice aA a3.length aa, .slice aB a4.length ab], .agg #[.slice xA x5.length xa, .slice xB x6.length xb]] w fun e w' => e = .returned (.bool true) ∧ Below w.heap.size w w' := by
  have HA3 := Aside0.mk ha3
  have HA4 := Aside0.mk ha4
  have HX5 := Aside0.mk hx5
  have HX6 := Aside0.mk hx6
  have HBX := Aside0.mk hbx
  have O1 := Aside0.mk o1
  have U1 := Aside0.mk u1
  have P1 := Aside0.mk p1
  have U2 := Aside0.mk u2
  clear ha3 ha4 hx5 hx6 hbx o1 u1 p1 u2
  subst q4
  have hu := Tryd.underlying25
  have hu2 := Tryd.underlying33
  have huc := Tryd.underlying44
  have hfld := fieldFault_0
  have HB := Aside0.mk (below_alloc (below_alloc (Below.refl w.heap.size w) (.cells #[.int .i64 a0, .int .i64 a1, .int .i64 a2, .slice aA a3.length aa, .slice aB a4.length ab] 25)) (.cells #[.slice xA x5.length xa, .slice xB x6.length xb] 29))
  have HA := Aside0.mk (blk_later (blk_at (w := w) (.cells #[.int .i64 a0, .int .i64 a1, .int .i64 a2, .slice aA a3.length aa, .slice aB a4.length ab] 25)) (.cells #[.slice xA x5.length xa, .slice xB x6.length xb] 29))
  have HX := Aside0.mk (blk_at1 (w := w) (.cells #[.int .i64 a0, .int .i64 a1, .int .i64 a2, .slice aA a3.length aa, .slice aB a4.length ab] 25) (.cells #[.slice xA x5.length xa, .slice xB x6.length xb] 29))
  go_enter Tryd.func3, Tryd.ntmps3
  go_wp2_with fail
  refine (HBX.out _).mono ?_
  rintro e w1 ⟨rfl, hb⟩
  replace HA := Aside0.mk (blk_call HA.out hb)
  replace HX := Aside0.mk (blk_call HX.out hb)
  replace HB := Aside0.mk (below_step HB.out hb)
  clear hb
  have kHA := bc0 HA.out
  have mHA := bc1 HA.out
  have nHA := bc2 HA.out
  have fHA := bf0 HA.out
  have yHA := blk_lt HA.out
  go_wp2_with fail
  clear kHA mHA nHA fHA yHA
  refine (views_Of.calls k a0 a1 a2 aA aa a3 aB ab a4 v0 vs q q' _ (Kd.C_below HA3.out HB.out) ea3 (Kd.C_below HA4.out HB.out) ea4 O1.out).mono ?_
  rintro e w2 ⟨v1_, rfl, hv1, hb⟩
  obtain ⟨vA, va, rfl⟩ := Kd.R_slice hv1
  have HvV := Aside0.mk (Kd.R_V (base' := 0) hv1)
  clear hv1
  replace HA := Aside0.mk (blk_call HA.out hb)
  replace HX := Aside0.mk (blk_call HX.out hb)
  replace HB := Aside0.mk (below_step HB.out hb)
  clear hb
  have kHA := bc0 HA.out
  have mHA := bc1 HA.out
  have nHA := bc2 HA.out
  have fHA := bf0 HA.out
  have yHA := blk_lt HA.out
  go_wp2_with fail
  clear kHA mHA nHA fHA yHA
  have l1_t2 := blk_lt HA.out
  have l2_t2 := blk_lt HX.out
  replace HA := Aside0.mk (blk_later HA.out (.cells #[.int .i64 v0, (.slice vA vs.length va)] 33))
  replace HX := Aside0.mk (blk_later HX.out (.cells #[.int .i64 v0, (.slice vA vs.length va)] 33))
  replace HvV := Aside0.mk (Kd.V_alloc HvV.out (.cells #[.int .i64 v0, (.slice vA vs.length va)] 33))
  replace HB := Aside0.mk (below_alloc HB.out (.cells #[.int .i64 v0, (.slice vA vs.length va)] 33))
  have HV := Aside0.mk (blk_at (w := w2) (.cells #[.int .i64 v0, (.slice vA vs.length va)] 33))
  have hs0_t2_ : (w2.alloc (.cells #[.int .i64 v0, (.slice vA vs.length va)] 33)).heap.size = w2.heap.size + 1 := by simp
  generalize w2.alloc (.cells #[.int .i64 v0, (.slice vA vs.length va)] 33) = X3 at *
  generalize w2.heap.size = t2_ at *
  have l3_t21 := blk_lt HA.out
  have l4_t21 := blk_lt HX.out
  have l5_t21 := blk_lt HV.out
  replace HA := Aside0.mk (blk_later HA.out (.cells #[.int .i64 q, .int .i64 q'] 35))
  replace HX := Aside0.mk (blk_later HX.out (.cells #[.int .i64 q, .int .i64 q'] 35))
  replace HV := Aside0.mk (blk_later HV.out (.cells #[.int .i64 q, .int .i64 q'] 35))
  replace HvV := Aside0.mk (Kd.V_alloc HvV.out (.cells #[.int .i64 q, .int .i64 q'] 35))
  replace HB := Aside0.mk (below_alloc HB.out (.cells #[.int .i64 q, .int .i64 q'] 35))
  have HE := Aside0.mk (blk_at (w := X3) (.cells #[.int .i64 q, .int .i64 q'] 35))
  rw [hs0_t2_] at HE l3_t21 l4_t21 l5_t21
  clear hs0_t2_
  generalize X3.alloc (.cells #[.int .i64 q, .int .i64 q'] 35) = X4 at *
  refine (views_Same.calls k v0 vA va vs a0 a1 a2 aA aa a3 aB ab a4 true f f' _ (Kd.F_now (Kd.V_F HvV.out)) (Kd.V_at HvV.out).2.1 (Kd.C_below HA3.out HB.out) ea3 (Kd.C_below HA4.out HB.out) ea4 U1.out).mono ?_
  rintro e w5 ⟨rfl, hb⟩
  replace HA := Aside0.mk (blk_call HA.out hb)
  replace HX := Aside0.mk (blk_call HX.out hb)
  replace HV := Aside0.mk (blk_call HV.out hb)
  replace HE := Aside0.mk (blk_call HE.out hb)
  replace HvV := Aside0.mk (Kd.V_below HvV.out hb)
  replace HB := Aside0.mk (below_step HB.out hb)
  clear hb
  have kHE := bc0 HE.out
  have mHE := bc1 HE.out
  have nHE := bc2 HE.out
  have fHE := bf0 HE.out
  have yHE := blk_lt HE.out
  have kHV := bc0 HV.out
  have mHV := bc1 HV.out
  have nHV := bc2 HV.out
  have fHV := bf0 HV.out
  have yHV := blk_lt HV.out
  have kHA := bc0 HA.out
  have mHA := bc1 HA.out
  have nHA := bc2 HA.out
  have fHA := bf0 HA.out
  have yHA := blk_lt HA.out
  have kHX := bc0 HX.out
  have mHX := bc1 HX.out
  have nHX := bc2 HX.out
  have fHX := bf0 HX.out
  have yHX := blk_lt HX.out
  go_wp2_with fail
  clear kHE mHE nHE fHE yHE kHV mHV nHV fHV yHV kHA mHA nHA fHA yHA kHX mHX nHX fHX yHX
  have l6_t5 := blk_lt HA.out
  have l7_t5 := blk_lt HX.out
  have l8_t5 := blk_lt HV.out
  have l9_t5 := blk_lt HE.out
  replace HA := Aside0.mk (blk_later HA.out (.cells #[.int .i64 f, .int .i64 f'] 35))
  replace HX := Aside0.mk (blk_later HX.out (.cells #[.int .i64 f, .int .i64 f'] 35))
  replace HV := Aside0.mk (blk_later HV.out (.cells #[.int .i64 f, .int .i64 f'] 35))
  replace HE := Aside0.mk (blk_later HE.out (.cells #[.int .i64 f, .int .i64 f'] 35))
  replace HvV := Aside0.mk (Kd.V_alloc HvV.out (.cells #[.int .i64 f, .int .i64 f'] 35))
  replace HB := Aside0.mk (below_alloc HB.out (.cells #[.int .i64 f, .int .i64 f'] 35))
  have HG := Aside0.mk (blk_at (w := w5) (.cells #[.int .i64 f, .int .i64 f'] 35))
  have hs5 : (w5.alloc (.cells #[.int .i64 f, .int .i64 f'] 35)).heap.size = w5.heap.size + 1 := by simp
  generalize w5.alloc (.cells #[.int .i64 f, .int .i64 f'] 35) = X6 at *
  generalize w5.heap.size = t5_ at *
  refine (mailbox_Apply.calls k a0 a1 a2 aA aa a3 aB ab a4 1 0 0 0 0 xA xa x5 xB xb x6 r0 r1 r2 r3 r4 s5 s6 _ (Kd.C_below HA3.out HB.out) ea3 (Kd.C_below HA4.out HB.out) ea4 (Kd.C_below HX5.out HB.out) ex5 (Kd.C_below HX6.out HB.out) ex6 P1.out).mono ?_
  rintro e w7 ⟨v3_, v4_, rfl, hv3_, hv4_, hb⟩
  obtain ⟨rA, ra, rfl⟩ := Kd.V_slice hv3_
  obtain ⟨rB, rb, rfl⟩ := Kd.V_slice hv4_
  have HrV := Aside0.mk hv3_
  have HrW := Aside0.mk hv4_
  clear hv3_ hv4_
  replace HA := Aside0.mk (blk_call HA.out hb)
  replace HX := Aside0.mk (blk_call HX.out hb)
  replace HV := Aside0.mk (blk_call HV.out hb)
  replace HE := Aside0.mk (blk_call HE.out hb)
  replace HG := Aside0.mk (blk_call HG.out hb)
  replace HvV := Aside0.mk (Kd.V_below HvV.out hb)
  replace HB := Aside0.mk (below_step HB.out hb)
  clear hb
  have kHV := bc0 HV.out
  have mHV := bc1 HV.out
  have nHV := bc2 HV.out
  have fHV := bf0 HV.out
  have yHV := blk_lt HV.out
  go_wp2_with fail
  clear kHV mHV nHV fHV yHV
  have l10_t7 := blk_lt HA.out
  have l11_t7 := blk_lt HX.out
  have l12_t7 := blk_lt HV.out
  have l13_t7 := blk_lt HE.out
  have l14_t7 := blk_lt HG.out
  replace HA := Aside0.mk (blk_later HA.out (.cells #[.int .i64 r0, .int .i64 r1, .int .i64 r2, .slice rA r3.length ra, .slice rB r4.length rb] 25))
  replace HX := Aside0.mk (blk_later HX.out (.cells #[.int .i64 r0, .int .i64 r1, .int .i64 r2, .slice rA r3.length ra, .slice rB r4.length rb] 25))
  replace HV := Aside0.mk (blk_later HV.out (.cells #[.int .i64 r0, .int .i64 r1, .int .i64 r2, .slice rA r3.length ra, .slice rB r4.length rb] 25))
  replace HE := Aside0.mk (blk_later HE.out (.cells #[.int .i64 r0, .int .i64 r1, .int .i64 r2, .slice rA r3.length ra, .slice rB r4.length rb] 25))
  replace HG := Aside0.mk (blk_later HG.out (.cells #[.int .i64 r0, .int .i64 r1, .int .i64 r2, .slice rA r3.length ra, .slice rB r4.length rb] 25))
  replace HvV := Aside0.mk (Kd.V_alloc HvV.out (.cells #[.int .i64 r0, .int .i64 r1, .int .i64 r2, .slice rA r3.length ra, .slice rB r4.length rb] 25))
  replace HrV := Aside0.mk (Kd.V_alloc HrV.out (.cells #[.int .i64 r0, .int .i64 r1, .int .i64 r2, .slice rA r3.length ra, .slice rB r4.length rb] 25))
  replace HrW := Aside0.mk (Kd.V_alloc HrW.out (.cells #[.int .i64 r0, .int .i64 r1, .int .i64 r2, .slice rA r3.length ra, .slice rB r4.length rb] 25))
  replace HB := Aside0.mk (below_alloc HB.out (.cells #[.int .i64 r0, .int .i64 r1, .int .i64 r2, .slice rA r3.length ra, .slice rB r4.length rb] 25))
  have HM := Aside0.mk (blk_at (w := w7) (.cells #[.int .i64 r0, .int .i64 r1, .int .i64 r2, .slice rA r3.length ra, .slice rB r4.length rb] 25))
  have hs0_t7_ : (w7.alloc (.cells #[.int .i64 r0, .int .i64 r1, .int .i64 r2, .slice rA r3.length ra, .slice rB r4.length rb] 25)).heap.size = w7.heap.size + 1 := by simp
  generalize w7.alloc (.cells #[.int .i64 r0, .int .i64 r1, .int .i64 r2, .slice rA r3.length ra, .slice rB r4.length rb] 25) = X8 at *
  generalize w7.heap.size = t7_ at *
  have l15_t71 := blk_lt HA.out
  have l16_t71 := blk_lt HX.out
  have l17_t71 := blk_lt HV.out
  have l18_t71 := blk_lt HE.out
  have l19_t71 := blk_lt HG.out
  have l20_t71 := blk_lt HM.out
  replace HA := Aside0.mk (blk_later HA.out (.cells #[.int .i64 s5, .int .i64 s6] 35))
  replace HX := Aside0.mk (blk_later HX.out (.cells #[.int .i64 s5, .int .i64 s6] 35))
  replace HV := Aside0.mk (blk_later HV.out (.cells #[.int .i64 s5, .int .i64 s6] 35))
  replace HE := Aside0.mk (blk_later HE.out (.cells #[.int .i64 s5, .int .i64 s6] 35))
  replace HG := Aside0.mk (blk_later HG.out (.cells #[.int .i64 s5, .int .i64 s6] 35))
  replace HM := Aside0.mk (blk_later HM.out (.cells #[.int .i64 s5, .int .i64 s6] 35))
  replace HvV := Aside0.mk (Kd.V_alloc HvV.out (.cells #[.int .i64 s5, .int .i64 s6] 35))
  replace HrV := Aside0.mk (Kd.V_alloc HrV.out (.cells #[.int .i64 s5, .int .i64 s6] 35))
  replace HrW := Aside0.mk (Kd.V_alloc HrW.out (.cells #[.int .i64 s5, .int .i64 s6] 35))
  replace HB := Aside0.mk (below_alloc HB.out (.cells #[.int .i64 s5, .int .i64 s6] 35))
  have HS := Aside0.mk (blk_at (w := X8) (.cells #[.int .i64 s5, .int .i64 s6] 35))
  rw [hs0_t7_] at HS l15_t71 l16_t71 l17_t71 l18_t71 l19_t71 l20_t71
  clear hs0_t7_
  generalize X8.alloc (.cells #[.int .i64 s5, .int .i64 s6] 35) = X9 at *
  refine (views_Same.calls k v0 vA va vs r0 r1 r2 rA ra r3 rB rb r4 false 0 y _ (Kd.F_now (Kd.V_F HvV.out)) (Kd.V_at HvV.out).2.1 (Kd.F_now (Kd.V_F HrV.out)) (Kd.V_at HrV.out).2.1 (Kd.F_now (Kd.V_F HrW.out)) (Kd.V_at HrW.out).2.1 U2.out).mono ?_
  rintro e w10 ⟨rfl, hb⟩
  replace HA := Aside0.mk (blk_call HA.out hb)
  replace HX := Aside0.mk (blk_call HX.out hb)
  replace HV := Aside0.mk (blk_call HV.out hb)
  replace HE := Aside0.mk (blk_call HE.out hb)
  replace HG := Aside0.mk (blk_call HG.out hb)
  replace HM := Aside0.mk (blk_call HM.out hb)
  replace HS := Aside0.mk (blk_call HS.out hb)
  replace HvV := Aside0.mk (Kd.V_below HvV.out hb)
  replace HrV := Aside0.mk (Kd.V_below HrV.out hb)
  replace HrW := Aside0.mk (Kd.V_below HrW.out hb)
  replace HB := Aside0.mk (below_step HB.out hb)
  clear hb
  have kHG := bc0 HG.out
  have mHG := bc1 HG.out
  have nHG := bc2 HG.out
  have fHG := bf0 HG.out
  have yHG := blk_lt HG.out
  go_wp2
  go_ret
  exact ⟨rfl, below_alloc HB.out _⟩


end Go.Proofs.YtjmnaipoccpbmaaDoor.P
end
/- Functions of this seat as Lean functions, and that the Go code comes to their answers: written by a program of this session's. -/
section
namespace Go.Proofs.YtjmnaipoccpbmaaDoor.P
open Go.RowKit Go.Proofs.YtjmnaipoccpbmaaDoorW.PrintWords Go.Proofs.YtjmnaipoccpbmaaDoorW.PrintLast Go.Proofs.YtjmnaipoccpbmaaDoorW.PrintMore
attribute [local go_sem] max2_int min2_int max_two min_two max_three min_three max_four min_four   -- for this text's walks alone
set_option linter.unusedVariables false
set_option linter.unusedSimpArgs false

/-! ### cmp_isNaN_int: function 67 -/
def cmp_isNaN_int.f (a0 : Int) : Option (Bool) := some (a0 != a0)
set_option maxHeartbeats 8000000 in
set_option maxRecDepth 100000 in
theorem cmp_isNaN_int.calls (a0 : Int) (r : Bool) (w : World) (h : cmp_isNaN_int.f a0 = some r) :
    Calls Tryd.prog 67 #[.int .i64 a0] w fun e w' => e = .returned (.bool r) ∧ Drawn0 w w' := by
  have H : (some (a0 != a0)) = some r := h
  clear h
  obtain rfl := Option.some.inj H
  go_enter Tryd.func67, Tryd.ntmps67
  go_wp2
  go_ret
  exact ⟨by first | rfl | (simp; done) | (simp [*]; done), by repeat (first | exact Drawn0.refl _ | apply Drawn0.step)⟩

end Go.Proofs.YtjmnaipoccpbmaaDoor.P
end
