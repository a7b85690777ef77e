/- Functions of this seat as Lean functions, and that the Go code comes to their answers: written by a program of this session's. -/
import Derived.Test.YtbolikomoenmaaaDoorQs10
import Derived.Test.YtbolikomoenmaaaDoorQs19
import Derived.Test.YtbolikomoenmaaaDoorQs30
import Derived.Test.YtbolikomoenmaaaDoorQs34
import Derived.Test.YtbolikomoenmaaaDoorQs36
import Derived.Test.YtbolikomoenmaaaDoorQs25
namespace Go.Proofs.YtbolikomoenmaaaDoor.P
open Go.RowKit Go.Proofs.YtbolikomoenmaaaDoorW.PrintWords Go.Proofs.YtbolikomoenmaaaDoorW.PrintLast Go.Proofs.YtbolikomoenmaaaDoorW.PrintMore
attribute [local go_sem] max2_int min2_int max_two min_two max_three min_three max_four min_four   -- for this text's walks alone
set_option linter.unusedVariables false
set_option linter.unusedSimpArgs false

/-! ### posthouselaw8_QuotaSizesAreThoseOfWrite: function 5 -/
set_option maxHeartbeats 4000000 in
set_option maxRecDepth 100000 in
theorem QuotaSizes_a (k : Nat) (a0 a1 a2 : Int) (aA : Option Addr) (aa : Nat) (a3 : List (S68)) (aB : Option Addr) (ab : Nat) (a4 : List (S72)) (xA : Option Addr) (xa : Nat) (x5 : List (S70)) (xB : Option Addr) (xb : Nat) (x6 : List Int) (r0 r1 r2 : Int) (r3 : List (S68)) (r4 : List (S72)) (s5 s6 : Int) (b : List Int) (q q' : Int) (w : World) (ha3 : Kd.C k68 w aA a3.length a3) (ea3 : a3.length ≤ aa) (ha4 : Kd.C k72 w aB a4.length a4) (ea4 : a4.length ≤ ab) (hx5 : Kd.C k70 w xA x5.length x5) (ex5 : x5.length ≤ xa) (hx6 : Kd.C (Kd.int .u8) w xB x6.length x6) (ex6 : x6.length ≤ xb) (hbx : ∀ w, Calls Tryd.prog 6 #[] w fun e w' => e = .returned (.bool true) ∧ Below w.heap.size w w') (f1 : message_Write.f k x5 x6 = some (b, q, q')) (p1 : mailbox_Apply.f k a0 a1 a2 a3 a4 1 0 0 0 0 x5 x6 = some (r0, r1, r2, r3, r4, s5, s6)) (q1 : (q != 0) = true) :
    Calls Tryd.prog 5 #[.agg #[.int .i64 a0, .int .i64 a1, .int .i64 a2, .slice aA a3.length aa, .slice aB a4.length ab], .agg #[.slice xA x5.length xa, .slice xB x6.length xb]] w fun e w' => e = .returned (.bool true) ∧ Below w.heap.size w w' := by
  have HA3 := Aside0.mk ha3
  have HA4 := Aside0.mk ha4
  have HX5 := Aside0.mk hx5
  have HX6 := Aside0.mk hx6
  have HBX := Aside0.mk hbx
  have F1 := Aside0.mk f1
  have P1 := Aside0.mk p1
  clear ha3 ha4 hx5 hx6 hbx f1 p1
  have hu := Tryd.underlying25
  have hu2 := Tryd.underlying37
  have hfld := fieldFault_0
  have HB := Aside0.mk (below_alloc (below_alloc (Below.refl w.heap.size w) (.cells #[.int .i64 a0, .int .i64 a1, .int .i64 a2, .slice aA a3.length aa, .slice aB a4.length ab] 25)) (.cells #[.slice xA x5.length xa, .slice xB x6.length xb] 31))
  have HA := Aside0.mk (blk_later (blk_at (w := w) (.cells #[.int .i64 a0, .int .i64 a1, .int .i64 a2, .slice aA a3.length aa, .slice aB a4.length ab] 25)) (.cells #[.slice xA x5.length xa, .slice xB x6.length xb] 31))
  have HX := Aside0.mk (blk_at1 (w := w) (.cells #[.int .i64 a0, .int .i64 a1, .int .i64 a2, .slice aA a3.length aa, .slice aB a4.length ab] 25) (.cells #[.slice xA x5.length xa, .slice xB x6.length xb] 31))
  go_enter Tryd.func5, Tryd.ntmps5
  go_wp2_with fail
  refine (HBX.out _).mono ?_
  rintro e w1 ⟨rfl, hb⟩
  replace HA := Aside0.mk (blk_call HA.out hb)
  replace HX := Aside0.mk (blk_call HX.out hb)
  replace HB := Aside0.mk (below_step HB.out hb)
  clear hb
  have kHX := bc0 HX.out
  have mHX := bc1 HX.out
  have nHX := bc2 HX.out
  have fHX := bf0 HX.out
  have yHX := blk_lt HX.out
  go_wp2_with fail
  clear kHX mHX nHX fHX yHX
  refine (message_Write.calls k xA xa x5 xB xb x6 b q q' _ (Kd.C_below HX5.out HB.out) ex5 (Kd.C_below HX6.out HB.out) ex6 F1.out).mono ?_
  rintro e w3 ⟨v_, rfl, hv, hb⟩
  obtain ⟨lA, la, rfl⟩ := Kd.R_slice hv
  clear hv
  replace HA := Aside0.mk (blk_call HA.out hb)
  replace HX := Aside0.mk (blk_call HX.out hb)
  replace HB := Aside0.mk (below_step HB.out hb)
  clear hb
  have kHA := bc0 HA.out
  have mHA := bc1 HA.out
  have nHA := bc2 HA.out
  have fHA := bf0 HA.out
  have yHA := blk_lt HA.out
  have kHX := bc0 HX.out
  have mHX := bc1 HX.out
  have nHX := bc2 HX.out
  have fHX := bf0 HX.out
  have yHX := blk_lt HX.out
  go_wp2_with fail
  clear kHA mHA nHA fHA yHA kHX mHX nHX fHX yHX
  have l1_t3 := blk_lt HA.out
  have l2_t3 := blk_lt HX.out
  replace HA := Aside0.mk (blk_later HA.out (.cells #[.int .i64 q, .int .i64 q'] 34))
  replace HX := Aside0.mk (blk_later HX.out (.cells #[.int .i64 q, .int .i64 q'] 34))
  replace HB := Aside0.mk (below_alloc HB.out (.cells #[.int .i64 q, .int .i64 q'] 34))
  have HE := Aside0.mk (blk_at (w := w3) (.cells #[.int .i64 q, .int .i64 q'] 34))
  have hs3 : (w3.alloc (.cells #[.int .i64 q, .int .i64 q'] 34)).heap.size = w3.heap.size + 1 := by simp
  generalize w3.alloc (.cells #[.int .i64 q, .int .i64 q'] 34) = X4 at *
  generalize w3.heap.size = t3 at *
  refine (mailbox_Apply.calls k a0 a1 a2 aA aa a3 aB ab a4 1 0 0 0 0 xA xa x5 xB xb x6 r0 r1 r2 r3 r4 s5 s6 _ (Kd.C_below HA3.out HB.out) ea3 (Kd.C_below HA4.out HB.out) ea4 (Kd.C_below HX5.out HB.out) ex5 (Kd.C_below HX6.out HB.out) ex6 P1.out).mono ?_
  rintro e w5 ⟨v3_, v4_, rfl, hv3_, hv4_, hb⟩
  obtain ⟨rA, ra, rfl⟩ := Kd.V_slice hv3_
  obtain ⟨rB, rb, rfl⟩ := Kd.V_slice hv4_
  have HrV := Aside0.mk hv3_
  have HrW := Aside0.mk hv4_
  clear hv3_ hv4_
  replace HA := Aside0.mk (blk_call HA.out hb)
  replace HX := Aside0.mk (blk_call HX.out hb)
  replace HE := Aside0.mk (blk_call HE.out hb)
  replace HB := Aside0.mk (below_step HB.out hb)
  clear hb
  have kHE := bc0 HE.out
  have mHE := bc1 HE.out
  have nHE := bc2 HE.out
  have fHE := bf0 HE.out
  have yHE := blk_lt HE.out
  have kHA := bc0 HA.out
  have mHA := bc1 HA.out
  have nHA := bc2 HA.out
  have fHA := bf0 HA.out
  have yHA := blk_lt HA.out
  go_wp2
  go_ret
  exact ⟨rfl, below_alloc (below_alloc HB.out _) _⟩

set_option maxHeartbeats 4000000 in
set_option maxRecDepth 100000 in
theorem QuotaSizes_b (k : Nat) (a0 a1 a2 : Int) (aA : Option Addr) (aa : Nat) (a3 : List (S68)) (aB : Option Addr) (ab : Nat) (a4 : List (S72)) (xA : Option Addr) (xa : Nat) (x5 : List (S70)) (xB : Option Addr) (xb : Nat) (x6 : List Int) (r0 r1 r2 : Int) (r3 : List (S68)) (r4 : List (S72)) (s5 s6 : Int) (b : List Int) (q q' : Int) (w : World) (ha3 : Kd.C k68 w aA a3.length a3) (ea3 : a3.length ≤ aa) (ha4 : Kd.C k72 w aB a4.length a4) (ea4 : a4.length ≤ ab) (hx5 : Kd.C k70 w xA x5.length x5) (ex5 : x5.length ≤ xa) (hx6 : Kd.C (Kd.int .u8) w xB x6.length x6) (ex6 : x6.length ≤ xb) (hbx : ∀ w, Calls Tryd.prog 6 #[] w fun e w' => e = .returned (.bool true) ∧ Below w.heap.size w w') (f1 : message_Write.f k x5 x6 = some (b, q, q')) (p1 : mailbox_Apply.f k a0 a1 a2 a3 a4 1 0 0 0 0 x5 x6 = some (r0, r1, r2, r3, r4, s5, s6)) (q1 : (q != 0) = false) (q2 : (s5 != 0) = true) :
    Calls Tryd.prog 5 #[.agg #[.int .i64 a0, .int .i64 a1, .int .i64 a2, .slice aA a3.length aa, .slice aB a4.length ab], .agg #[.slice xA x5.length xa, .slice xB x6.length xb]] w fun e w' => e = .returned (.bool true) ∧ Below w.heap.size w w' := by
  have HA3 := Aside0.mk ha3
  have HA4 := Aside0.mk ha4
  have HX5 := Aside0.mk hx5
  have HX6 := Aside0.mk hx6
  have HBX := Aside0.mk hbx
  have F1 := Aside0.mk f1
  have P1 := Aside0.mk p1
  clear ha3 ha4 hx5 hx6 hbx f1 p1
  have hu := Tryd.underlying25
  have hu2 := Tryd.underlying37
  have hfld := fieldFault_0
  have HB := Aside0.mk (below_alloc (below_alloc (Below.refl w.heap.size w) (.cells #[.int .i64 a0, .int .i64 a1, .int .i64 a2, .slice aA a3.length aa, .slice aB a4.length ab] 25)) (.cells #[.slice xA x5.length xa, .slice xB x6.length xb] 31))
  have HA := Aside0.mk (blk_later (blk_at (w := w) (.cells #[.int .i64 a0, .int .i64 a1, .int .i64 a2, .slice aA a3.length aa, .slice aB a4.length ab] 25)) (.cells #[.slice xA x5.length xa, .slice xB x6.length xb] 31))
  have HX := Aside0.mk (blk_at1 (w := w) (.cells #[.int .i64 a0, .int .i64 a1, .int .i64 a2, .slice aA a3.length aa, .slice aB a4.length ab] 25) (.cells #[.slice xA x5.length xa, .slice xB x6.length xb] 31))
  go_enter Tryd.func5, Tryd.ntmps5
  go_wp2_with fail
  refine (HBX.out _).mono ?_
  rintro e w1 ⟨rfl, hb⟩
  replace HA := Aside0.mk (blk_call HA.out hb)
  replace HX := Aside0.mk (blk_call HX.out hb)
  replace HB := Aside0.mk (below_step HB.out hb)
  clear hb
  have kHX := bc0 HX.out
  have mHX := bc1 HX.out
  have nHX := bc2 HX.out
  have fHX := bf0 HX.out
  have yHX := blk_lt HX.out
  go_wp2_with fail
  clear kHX mHX nHX fHX yHX
  refine (message_Write.calls k xA xa x5 xB xb x6 b q q' _ (Kd.C_below HX5.out HB.out) ex5 (Kd.C_below HX6.out HB.out) ex6 F1.out).mono ?_
  rintro e w3 ⟨v_, rfl, hv, hb⟩
  obtain ⟨lA, la, rfl⟩ := Kd.R_slice hv
  clear hv
  replace HA := Aside0.mk (blk_call HA.out hb)
  replace HX := Aside0.mk (blk_call HX.out hb)
  replace HB := Aside0.mk (below_step HB.out hb)
  clear hb
  have kHA := bc0 HA.out
  have mHA := bc1 HA.out
  have nHA := bc2 HA.out
  have fHA := bf0 HA.out
  have yHA := blk_lt HA.out
  have kHX := bc0 HX.out
  have mHX := bc1 HX.out
  have nHX := bc2 HX.out
  have fHX := bf0 HX.out
  have yHX := blk_lt HX.out
  go_wp2_with fail
  clear kHA mHA nHA fHA yHA kHX mHX nHX fHX yHX
  have l1_t3 := blk_lt HA.out
  have l2_t3 := blk_lt HX.out
  replace HA := Aside0.mk (blk_later HA.out (.cells #[.int .i64 q, .int .i64 q'] 34))
  replace HX := Aside0.mk (blk_later HX.out (.cells #[.int .i64 q, .int .i64 q'] 34))
  replace HB := Aside0.mk (below_alloc HB.out (.cells #[.int .i64 q, .int .i64 q'] 34))
  have HE := Aside0.mk (blk_at (w := w3) (.cells #[.int .i64 q, .int .i64 q'] 34))
  have hs3 : (w3.alloc (.cells #[.int .i64 q, .int .i64 q'] 34)).heap.size = w3.heap.size + 1 := by simp
  generalize w3.alloc (.cells #[.int .i64 q, .int .i64 q'] 34) = X4 at *
  generalize w3.heap.size = t3 at *
  refine (mailbox_Apply.calls k a0 a1 a2 aA aa a3 aB ab a4 1 0 0 0 0 xA xa x5 xB xb x6 r0 r1 r2 r3 r4 s5 s6 _ (Kd.C_below HA3.out HB.out) ea3 (Kd.C_below HA4.out HB.out) ea4 (Kd.C_below HX5.out HB.out) ex5 (Kd.C_below HX6.out HB.out) ex6 P1.out).mono ?_
  rintro e w5 ⟨v3_, v4_, rfl, hv3_, hv4_, hb⟩
  obtain ⟨rA, ra, rfl⟩ := Kd.V_slice hv3_
  obtain ⟨rB, rb, rfl⟩ := Kd.V_slice hv4_
  have HrV := Aside0.mk hv3_
  have HrW := Aside0.mk hv4_
  clear hv3_ hv4_
  replace HA := Aside0.mk (blk_call HA.out hb)
  replace HX := Aside0.mk (blk_call HX.out hb)
  replace HE := Aside0.mk (blk_call HE.out hb)
  replace HB := Aside0.mk (below_step HB.out hb)
  clear hb
  have kHE := bc0 HE.out
  have mHE := bc1 HE.out
  have nHE := bc2 HE.out
  have fHE := bf0 HE.out
  have yHE := blk_lt HE.out
  have kHA := bc0 HA.out
  have mHA := bc1 HA.out
  have nHA := bc2 HA.out
  have fHA := bf0 HA.out
  have yHA := blk_lt HA.out
  go_wp2
  go_ret
  exact ⟨rfl, below_alloc (below_alloc HB.out _) _⟩

set_option maxHeartbeats 4000000 in
set_option maxRecDepth 100000 in
theorem QuotaSizes_c (k : Nat) (a0 a1 a2 : Int) (aA : Option Addr) (aa : Nat) (a3 : List (S68)) (aB : Option Addr) (ab : Nat) (a4 : List (S72)) (xA : Option Addr) (xa : Nat) (x5 : List (S70)) (xB : Option Addr) (xb : Nat) (x6 : List Int) (r0 r1 r2 : Int) (r3 : List (S68)) (r4 : List (S72)) (s5 s6 : Int) (b : List Int) (q q' : Int) (w : World) (ha3 : Kd.C k68 w aA a3.length a3) (ea3 : a3.length ≤ aa) (ha4 : Kd.C k72 w aB a4.length a4) (ea4 : a4.length ≤ ab) (hx5 : Kd.C k70 w xA x5.length x5) (ex5 : x5.length ≤ xa) (hx6 : Kd.C (Kd.int .u8) w xB x6.length x6) (ex6 : x6.length ≤ xb) (hbx : ∀ w, Calls Tryd.prog 6 #[] w fun e w' => e = .returned (.bool true) ∧ Below w.heap.size w w') (f1 : message_Write.f k x5 x6 = some (b, q, q')) (p1 : mailbox_Apply.f k a0 a1 a2 a3 a4 1 0 0 0 0 x5 x6 = some (r0, r1, r2, r3, r4, s5, s6)) (q1 : (q != 0) = false) (q2 : (s5 != 0) = false) (u v u' z v' z' : Int) (u1 : quota_Used.f k [(⟨a0, a1, a2, a3, a4⟩ : S25)] = some (u, v, 0, u')) (u2 : quota_Used.f k [(⟨r0, r1, r2, r3, r4⟩ : S25)] = some (z, v', 0, z')) (e1 : IntKind.i64.wrap (u + (b.length : Int)) = z) (e2 : IntKind.i64.wrap (v + 1) = v') :
    Calls Tryd.prog 5 #[.agg #[.int .i64 a0, .int .i64 a1, .int .i64 a2, .slice aA a3.length aa, .slice aB a4.length ab], .agg #[.slice xA x5.length xa, .slice xB x6.length xb]] w fun e w' => e = .returned (.bool true) ∧ Below w.heap.size w w' := by
  have HA3 := Aside0.mk ha3
  have HA4 := Aside0.mk ha4
  have HX5 := Aside0.mk hx5
  have HX6 := Aside0.mk hx6
  have HBX := Aside0.mk hbx
  have F1 := Aside0.mk f1
  have P1 := Aside0.mk p1
  have U1 := Aside0.mk u1
  have U2 := Aside0.mk u2
  clear ha3 ha4 hx5 hx6 hbx f1 p1 u1 u2
  have hu := Tryd.underlying25
  have hu2 := Tryd.underlying37
  have hfld := fieldFault_0
  have HB := Aside0.mk (below_alloc (below_alloc (Below.refl w.heap.size w) (.cells #[.int .i64 a0, .int .i64 a1, .int .i64 a2, .slice aA a3.length aa, .slice aB a4.length ab] 25)) (.cells #[.slice xA x5.length xa, .slice xB x6.length xb] 31))
  have HA := Aside0.mk (blk_later (blk_at (w := w) (.cells #[.int .i64 a0, .int .i64 a1, .int .i64 a2, .slice aA a3.length aa, .slice aB a4.length ab] 25)) (.cells #[.slice xA x5.length xa, .slice xB x6.length xb] 31))
  have HX := Aside0.mk (blk_at1 (w := w) (.cells #[.int .i64 a0, .int .i64 a1, .int .i64 a2, .slice aA a3.length aa, .slice aB a4.length ab] 25) (.cells #[.slice xA x5.length xa, .slice xB x6.length xb] 31))
  go_enter Tryd.func5, Tryd.ntmps5
  go_wp2_with fail
  refine (HBX.out _).mono ?_
  rintro e w1 ⟨rfl, hb⟩
  replace HA := Aside0.mk (blk_call HA.out hb)
  replace HX := Aside0.mk (blk_call HX.out hb)
  replace HB := Aside0.mk (below_step HB.out hb)
  clear hb
  have kHX := bc0 HX.out
  have mHX := bc1 HX.out
  have nHX := bc2 HX.out
  have fHX := bf0 HX.out
  have yHX := blk_lt HX.out
  go_wp2_with fail
  clear kHX mHX nHX fHX yHX
  refine (message_Write.calls k xA xa x5 xB xb x6 b q q' _ (Kd.C_below HX5.out HB.out) ex5 (Kd.C_below HX6.out HB.out) ex6 F1.out).mono ?_
  rintro e w3 ⟨v_, rfl, hv, hb⟩
  obtain ⟨lA, la, rfl⟩ := Kd.R_slice hv
  clear hv
  replace HA := Aside0.mk (blk_call HA.out hb)
  replace HX := Aside0.mk (blk_call HX.out hb)
  replace HB := Aside0.mk (below_step HB.out hb)
  clear hb
  have kHA := bc0 HA.out
  have mHA := bc1 HA.out
  have nHA := bc2 HA.out
  have fHA := bf0 HA.out
  have yHA := blk_lt HA.out
  have kHX := bc0 HX.out
  have mHX := bc1 HX.out
  have nHX := bc2 HX.out
  have fHX := bf0 HX.out
  have yHX := blk_lt HX.out
  go_wp2_with fail
  clear kHA mHA nHA fHA yHA kHX mHX nHX fHX yHX
  have l1_t3 := blk_lt HA.out
  have l2_t3 := blk_lt HX.out
  replace HA := Aside0.mk (blk_later HA.out (.cells #[.int .i64 q, .int .i64 q'] 34))
  replace HX := Aside0.mk (blk_later HX.out (.cells #[.int .i64 q, .int .i64 q'] 34))
  replace HB := Aside0.mk (below_alloc HB.out (.cells #[.int .i64 q, .int .i64 q'] 34))
  have HE := Aside0.mk (blk_at (w := w3) (.cells #[.int .i64 q, .int .i64 q'] 34))
  have hs3 : (w3.alloc (.cells #[.int .i64 q, .int .i64 q'] 34)).heap.size = w3.heap.size + 1 := by simp
  generalize w3.alloc (.cells #[.int .i64 q, .int .i64 q'] 34) = X4 at *
  generalize w3.heap.size = t3 at *
  refine (mailbox_Apply.calls k a0 a1 a2 aA aa a3 aB ab a4 1 0 0 0 0 xA xa x5 xB xb x6 r0 r1 r2 r3 r4 s5 s6 _ (Kd.C_below HA3.out HB.out) ea3 (Kd.C_below HA4.out HB.out) ea4 (Kd.C_below HX5.out HB.out) ex5 (Kd.C_below HX6.out HB.out) ex6 P1.out).mono ?_
  rintro e w5 ⟨v3_, v4_, rfl, hv3_, hv4_, hb⟩
  obtain ⟨rA, ra, rfl⟩ := Kd.V_slice hv3_
  obtain ⟨rB, rb, rfl⟩ := Kd.V_slice hv4_
  have HrV := Aside0.mk hv3_
  have HrW := Aside0.mk hv4_
  clear hv3_ hv4_
  replace HA := Aside0.mk (blk_call HA.out hb)
  replace HX := Aside0.mk (blk_call HX.out hb)
  replace HE := Aside0.mk (blk_call HE.out hb)
  replace HB := Aside0.mk (below_step HB.out hb)
  clear hb
  have kHE := bc0 HE.out
  have mHE := bc1 HE.out
  have nHE := bc2 HE.out
  have fHE := bf0 HE.out
  have yHE := blk_lt HE.out
  have kHA := bc0 HA.out
  have mHA := bc1 HA.out
  have nHA := bc2 HA.out
  have fHA := bf0 HA.out
  have yHA := blk_lt HA.out
  go_wp2_with fail
  clear kHE mHE nHE fHE yHE kHA mHA nHA fHA yHA
  have l3_t5 := blk_lt HA.out
  have l4_t5 := blk_lt HX.out
  have l5_t5 := blk_lt HE.out
  replace HA := Aside0.mk (blk_later HA.out (.cells #[.int .i64 r0, .int .i64 r1, .int .i64 r2, .slice rA r3.length ra, .slice rB r4.length rb] 25))
  replace HX := Aside0.mk (blk_later HX.out (.cells #[.int .i64 r0, .int .i64 r1, .int .i64 r2, .slice rA r3.length ra, .slice rB r4.length rb] 25))
  replace HE := Aside0.mk (blk_later HE.out (.cells #[.int .i64 r0, .int .i64 r1, .int .i64 r2, .slice rA r3.length ra, .slice rB r4.length rb] 25))
  replace HrV := Aside0.mk (Kd.V_alloc HrV.out (.cells #[.int .i64 r0, .int .i64 r1, .int .i64 r2, .slice rA r3.length ra, .slice rB r4.length rb] 25))
  replace HrW := Aside0.mk (Kd.V_alloc HrW.out (.cells #[.int .i64 r0, .int .i64 r1, .int .i64 r2, .slice rA r3.length ra, .slice rB r4.length rb] 25))
  replace HB := Aside0.mk (below_alloc HB.out (.cells #[.int .i64 r0, .int .i64 r1, .int .i64 r2, .slice rA r3.length ra, .slice rB r4.length rb] 25))
  have HM := Aside0.mk (blk_at (w := w5) (.cells #[.int .i64 r0, .int .i64 r1, .int .i64 r2, .slice rA r3.length ra, .slice rB r4.length rb] 25))
  have hs_t5 : (w5.alloc (.cells #[.int .i64 r0, .int .i64 r1, .int .i64 r2, .slice rA r3.length ra, .slice rB r4.length rb] 25)).heap.size = w5.heap.size + 1 := by simp
  generalize w5.alloc (.cells #[.int .i64 r0, .int .i64 r1, .int .i64 r2, .slice rA r3.length ra, .slice rB r4.length rb] 25) = X6 at *
  generalize w5.heap.size = t5 at *
  have hz_t5 : (X6.alloc (.cells #[.int .i64 s5, .int .i64 s6] 34)).heap.size = t5 + 1 + 1 := by rw [World.size_alloc, hs_t5]
  have l6_t51 := blk_lt HA.out
  have l7_t51 := blk_lt HX.out
  have l8_t51 := blk_lt HE.out
  have l9_t51 := blk_lt HM.out
  replace HA := Aside0.mk (blk_later HA.out (.cells #[.int .i64 s5, .int .i64 s6] 34))
  replace HX := Aside0.mk (blk_later HX.out (.cells #[.int .i64 s5, .int .i64 s6] 34))
  replace HE := Aside0.mk (blk_later HE.out (.cells #[.int .i64 s5, .int .i64 s6] 34))
  replace HM := Aside0.mk (blk_later HM.out (.cells #[.int .i64 s5, .int .i64 s6] 34))
  replace HrV := Aside0.mk (Kd.V_alloc HrV.out (.cells #[.int .i64 s5, .int .i64 s6] 34))
  replace HrW := Aside0.mk (Kd.V_alloc HrW.out (.cells #[.int .i64 s5, .int .i64 s6] 34))
  replace HB := Aside0.mk (below_alloc HB.out (.cells #[.int .i64 s5, .int .i64 s6] 34))
  have HG := Aside0.mk (blk_at (w := X6) (.cells #[.int .i64 s5, .int .i64 s6] 34))
  rw [hs_t5] at HG l6_t51 l7_t51 l8_t51 l9_t51
  clear hs_t5
  generalize X6.alloc (.cells #[.int .i64 s5, .int .i64 s6] 34) = X7 at *
  have l10_t511 := blk_lt HA.out
  have l11_t511 := blk_lt HX.out
  have l12_t511 := blk_lt HE.out
  have l13_t511 := blk_lt HM.out
  have l14_t511 := blk_lt HG.out
  replace HA := Aside0.mk (blk_later HA.out (.cells #[.int .i64 a0, .int .i64 a1, .int .i64 a2, .slice aA a3.length aa, .slice aB a4.length ab] 25))
  replace HX := Aside0.mk (blk_later HX.out (.cells #[.int .i64 a0, .int .i64 a1, .int .i64 a2, .slice aA a3.length aa, .slice aB a4.length ab] 25))
  replace HE := Aside0.mk (blk_later HE.out (.cells #[.int .i64 a0, .int .i64 a1, .int .i64 a2, .slice aA a3.length aa, .slice aB a4.length ab] 25))
  replace HM := Aside0.mk (blk_later HM.out (.cells #[.int .i64 a0, .int .i64 a1, .int .i64 a2, .slice aA a3.length aa, .slice aB a4.length ab] 25))
  replace HG := Aside0.mk (blk_later HG.out (.cells #[.int .i64 a0, .int .i64 a1, .int .i64 a2, .slice aA a3.length aa, .slice aB a4.length ab] 25))
  replace HrV := Aside0.mk (Kd.V_alloc HrV.out (.cells #[.int .i64 a0, .int .i64 a1, .int .i64 a2, .slice aA a3.length aa, .slice aB a4.length ab] 25))
  replace HrW := Aside0.mk (Kd.V_alloc HrW.out (.cells #[.int .i64 a0, .int .i64 a1, .int .i64 a2, .slice aA a3.length aa, .slice aB a4.length ab] 25))
  replace HB := Aside0.mk (below_alloc HB.out (.cells #[.int .i64 a0, .int .i64 a1, .int .i64 a2, .slice aA a3.length aa, .slice aB a4.length ab] 25))
  have HQ := Aside0.mk (blk_at (w := X7) (.cells #[.int .i64 a0, .int .i64 a1, .int .i64 a2, .slice aA a3.length aa, .slice aB a4.length ab] 25))
  rw [hz_t5] at HQ l10_t511 l11_t511 l12_t511 l13_t511 l14_t511
  clear hz_t5
  generalize X7.alloc (.cells #[.int .i64 a0, .int .i64 a1, .int .i64 a2, .slice aA a3.length aa, .slice aB a4.length ab] 25) = X8 at *
  refine (quota_Used.calls k (some ⟨t5 + 1 + 1, 0, none⟩) 1 [(⟨a0, a1, a2, a3, a4⟩ : S25)] u v 0 u' _ (C_one HQ.out rfl rfl (k25_mk _ (⟨a0, a1, a2, a3, a4⟩ : S25) ea3 (Kd.C_below HA3.out HB.out) ea4 (Kd.C_below HA4.out HB.out))) (Nat.le_refl _) U1.out).mono ?_
  rintro e w9 ⟨rfl, hb⟩
  replace HA := Aside0.mk (blk_call HA.out hb)
  replace HX := Aside0.mk (blk_call HX.out hb)
  replace HE := Aside0.mk (blk_call HE.out hb)
  replace HM := Aside0.mk (blk_call HM.out hb)
  replace HG := Aside0.mk (blk_call HG.out hb)
  replace HQ := Aside0.mk (blk_call HQ.out hb)
  replace HrV := Aside0.mk (Kd.V_below HrV.out hb)
  replace HrW := Aside0.mk (Kd.V_below HrW.out hb)
  replace HB := Aside0.mk (below_step HB.out hb)
  clear hb
  clear HQ
  have kHM := bc0 HM.out
  have mHM := bc1 HM.out
  have nHM := bc2 HM.out
  have fHM := bf0 HM.out
  have yHM := blk_lt HM.out
  go_wp2_with fail
  clear kHM mHM nHM fHM yHM
  have l15_t9 := blk_lt HA.out
  have l16_t9 := blk_lt HX.out
  have l17_t9 := blk_lt HE.out
  have l18_t9 := blk_lt HM.out
  have l19_t9 := blk_lt HG.out
  replace HA := Aside0.mk (blk_later HA.out (.cells #[.int .i64 u, .int .i64 v] 27))
  replace HX := Aside0.mk (blk_later HX.out (.cells #[.int .i64 u, .int .i64 v] 27))
  replace HE := Aside0.mk (blk_later HE.out (.cells #[.int .i64 u, .int .i64 v] 27))
  replace HM := Aside0.mk (blk_later HM.out (.cells #[.int .i64 u, .int .i64 v] 27))
  replace HG := Aside0.mk (blk_later HG.out (.cells #[.int .i64 u, .int .i64 v] 27))
  replace HrV := Aside0.mk (Kd.V_alloc HrV.out (.cells #[.int .i64 u, .int .i64 v] 27))
  replace HrW := Aside0.mk (Kd.V_alloc HrW.out (.cells #[.int .i64 u, .int .i64 v] 27))
  replace HB := Aside0.mk (below_alloc HB.out (.cells #[.int .i64 u, .int .i64 v] 27))
  have HU := Aside0.mk (blk_at (w := w9) (.cells #[.int .i64 u, .int .i64 v] 27))
  have hs_t9 : (w9.alloc (.cells #[.int .i64 u, .int .i64 v] 27)).heap.size = w9.heap.size + 1 := by simp
  generalize w9.alloc (.cells #[.int .i64 u, .int .i64 v] 27) = X10 at *
  generalize w9.heap.size = t9 at *
  have hz_t9 : (X10.alloc (.cells #[.int .i64 0, .int .i64 u'] 34)).heap.size = t9 + 1 + 1 := by rw [World.size_alloc, hs_t9]
  have l20_t91 := blk_lt HA.out
  have l21_t91 := blk_lt HX.out
  have l22_t91 := blk_lt HE.out
  have l23_t91 := blk_lt HM.out
  have l24_t91 := blk_lt HG.out
  have l25_t91 := blk_lt HU.out
  replace HA := Aside0.mk (blk_later HA.out (.cells #[.int .i64 0, .int .i64 u'] 34))
  replace HX := Aside0.mk (blk_later HX.out (.cells #[.int .i64 0, .int .i64 u'] 34))
  replace HE := Aside0.mk (blk_later HE.out (.cells #[.int .i64 0, .int .i64 u'] 34))
  replace HM := Aside0.mk (blk_later HM.out (.cells #[.int .i64 0, .int .i64 u'] 34))
  replace HG := Aside0.mk (blk_later HG.out (.cells #[.int .i64 0, .int .i64 u'] 34))
  replace HU := Aside0.mk (blk_later HU.out (.cells #[.int .i64 0, .int .i64 u'] 34))
  replace HrV := Aside0.mk (Kd.V_alloc HrV.out (.cells #[.int .i64 0, .int .i64 u'] 34))
  replace HrW := Aside0.mk (Kd.V_alloc HrW.out (.cells #[.int .i64 0, .int .i64 u'] 34))
  replace HB := Aside0.mk (below_alloc HB.out (.cells #[.int .i64 0, .int .i64 u'] 34))
  have HV := Aside0.mk (blk_at (w := X10) (.cells #[.int .i64 0, .int .i64 u'] 34))
  rw [hs_t9] at HV l20_t91 l21_t91 l22_t91 l23_t91 l24_t91 l25_t91
  clear hs_t9
  generalize X10.alloc (.cells #[.int .i64 0, .int .i64 u'] 34) = X11 at *
  have l26_t911 := blk_lt HA.out
  have l27_t911 := blk_lt HX.out
  have l28_t911 := blk_lt HE.out
  have l29_t911 := blk_lt HM.out
  have l30_t911 := blk_lt HG.out
  have l31_t911 := blk_lt HU.out
  have l32_t911 := blk_lt HV.out
  replace HA := Aside0.mk (blk_later HA.out (.cells #[.int .i64 r0, .int .i64 r1, .int .i64 r2, .slice rA r3.length ra, .slice rB r4.length rb] 25))
  replace HX := Aside0.mk (blk_later HX.out (.cells #[.int .i64 r0, .int .i64 r1, .int .i64 r2, .slice rA r3.length ra, .slice rB r4.length rb] 25))
  replace HE := Aside0.mk (blk_later HE.out (.cells #[.int .i64 r0, .int .i64 r1, .int .i64 r2, .slice rA r3.length ra, .slice rB r4.length rb] 25))
  replace HM := Aside0.mk (blk_later HM.out (.cells #[.int .i64 r0, .int .i64 r1, .int .i64 r2, .slice rA r3.length ra, .slice rB r4.length rb] 25))
  replace HG := Aside0.mk (blk_later HG.out (.cells #[.int .i64 r0, .int .i64 r1, .int .i64 r2, .slice rA r3.length ra, .slice rB r4.length rb] 25))
  replace HU := Aside0.mk (blk_later HU.out (.cells #[.int .i64 r0, .int .i64 r1, .int .i64 r2, .slice rA r3.length ra, .slice rB r4.length rb] 25))
  replace HV := Aside0.mk (blk_later HV.out (.cells #[.int .i64 r0, .int .i64 r1, .int .i64 r2, .slice rA r3.length ra, .slice rB r4.length rb] 25))
  replace HrV := Aside0.mk (Kd.V_alloc HrV.out (.cells #[.int .i64 r0, .int .i64 r1, .int .i64 r2, .slice rA r3.length ra, .slice rB r4.length rb] 25))
  replace HrW := Aside0.mk (Kd.V_alloc HrW.out (.cells #[.int .i64 r0, .int .i64 r1, .int .i64 r2, .slice rA r3.length ra, .slice rB r4.length rb] 25))
  replace HB := Aside0.mk (below_alloc HB.out (.cells #[.int .i64 r0, .int .i64 r1, .int .i64 r2, .slice rA r3.length ra, .slice rB r4.length rb] 25))
  have HQ := Aside0.mk (blk_at (w := X11) (.cells #[.int .i64 r0, .int .i64 r1, .int .i64 r2, .slice rA r3.length ra, .slice rB r4.length rb] 25))
  rw [hz_t9] at HQ l26_t911 l27_t911 l28_t911 l29_t911 l30_t911 l31_t911 l32_t911
  clear hz_t9
  generalize X11.alloc (.cells #[.int .i64 r0, .int .i64 r1, .int .i64 r2, .slice rA r3.length ra, .slice rB r4.length rb] 25) = X12 at *
  refine (quota_Used.calls k (some ⟨t9 + 1 + 1, 0, none⟩) 1 [(⟨r0, r1, r2, r3, r4⟩ : S25)] z v' 0 z' _ (C_one HQ.out rfl rfl (k25_mk _ (⟨r0, r1, r2, r3, r4⟩ : S25) (Kd.V_at HrV.out).2.1 (Kd.F_now (Kd.V_F HrV.out)) (Kd.V_at HrW.out).2.1 (Kd.F_now (Kd.V_F HrW.out)))) (Nat.le_refl _) U2.out).mono ?_
  rintro e w13 ⟨rfl, hb⟩
  replace HA := Aside0.mk (blk_call HA.out hb)
  replace HX := Aside0.mk (blk_call HX.out hb)
  replace HE := Aside0.mk (blk_call HE.out hb)
  replace HM := Aside0.mk (blk_call HM.out hb)
  replace HG := Aside0.mk (blk_call HG.out hb)
  replace HU := Aside0.mk (blk_call HU.out hb)
  replace HV := Aside0.mk (blk_call HV.out hb)
  replace HQ := Aside0.mk (blk_call HQ.out hb)
  replace HrV := Aside0.mk (Kd.V_below HrV.out hb)
  replace HrW := Aside0.mk (Kd.V_below HrW.out hb)
  replace HB := Aside0.mk (below_step HB.out hb)
  clear hb
  clear HQ HrV HrW
  have kHU := bc0 HU.out
  have mHU := bc1 HU.out
  have nHU := bc2 HU.out
  have fHU := bf0 HU.out
  have yHU := blk_lt HU.out
  have kHV := bc0 HV.out
  have mHV := bc1 HV.out
  have nHV := bc2 HV.out
  have fHV := bf0 HV.out
  have yHV := blk_lt HV.out
  go_wp2
  go_ret
  exact ⟨rfl, below_alloc (below_alloc HB.out _) _⟩



end Go.Proofs.YtbolikomoenmaaaDoor.P
