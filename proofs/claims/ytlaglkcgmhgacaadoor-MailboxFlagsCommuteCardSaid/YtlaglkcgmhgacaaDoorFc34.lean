/- Functions of this seat as Lean functions, and that the Go code comes to their answers: written by a program of this session's. -/
import Derived.Test.YtlaglkcgmhgacaaDoorFc31
import Derived.Test.YtlaglkcgmhgacaaDoorFc10
import Derived.Test.YtlaglkcgmhgacaaDoorFc25
import Derived.Test.YtlaglkcgmhgacaaDoorFc30
import Derived.Test.YtlaglkcgmhgacaaDoorFc29
namespace Go.Proofs.YtlaglkcgmhgacaaDoor.P
open Go.RowKit Go.Proofs.YtlaglkcgmhgacaaDoorW.PrintWords Go.Proofs.YtlaglkcgmhgacaaDoorW.PrintLast Go.Proofs.YtlaglkcgmhgacaaDoorW.PrintMore
attribute [local go_sem] max2_int min2_int max_two min_two max_three min_three max_four min_four   -- for this text's walks alone
set_option linter.unusedVariables false
set_option linter.unusedSimpArgs false

/-! ### posthouselaw8_MailboxFlagsCommute: function 5 -/
theorem fieldView_1 (x : Int) (A : Option Addr) (n c : Nat) (w : World) : Sem.run Tryd.prog (Instr.field 45 (.agg #[.int .i64 x, .slice A n c]) 1) w = .ok (.slice A n c) w := by kernel_rfl
set_option maxHeartbeats 8000000 in
set_option maxRecDepth 100000 in
theorem FlagsCommute_g1 (k : Nat) (a0 a1 a2 : Int) (aA : Option Addr) (aa : Nat) (a3 : List (S58)) (aB : Option Addr) (ab : Nat) (a4 : List (S61)) (c0 c1 c2 c3 c4 : Int) (cA : Option Addr) (ca : Nat) (c5 : List (S77)) (cB : Option Addr) (cb : Nat) (c6 : List Int) (d0 d1 d2 d3 d4 : Int) (dA : Option Addr) (da : Nat) (d5 : List (S77)) (dB : Option Addr) (db : Nat) (d6 : List Int) (w : World) (ha3 : Kd.C k58 w aA a3.length a3) (ea3 : a3.length ≤ aa) (ha4 : Kd.C k61 w aB a4.length a4) (ea4 : a4.length ≤ ab) (hc5 : Kd.C k77 w cA c5.length c5) (ec5 : c5.length ≤ ca) (hc6 : Kd.C (Kd.int .u8) w cB c6.length c6) (ec6 : c6.length ≤ cb) (hd5 : Kd.C k77 w dA d5.length d5) (ed5 : d5.length ≤ da) (hd6 : Kd.C (Kd.int .u8) w dB d6.length d6) (ed6 : d6.length ≤ db) (hbx : ∀ w, Calls Tryd.prog 8 #[] w fun e w' => e = .returned (.bool true) ∧ Below w.heap.size w w') (h1 : (c0 != 2) = true) :
    Calls Tryd.prog 5 #[.agg #[.int .i64 a0, .int .i64 a1, .int .i64 a2, .slice aA a3.length aa, .slice aB a4.length ab], .agg #[.int .i64 c0, .int .i64 c1, .int .i64 c2, .int .i64 c3, .int .i64 c4, .slice cA c5.length ca, .slice cB c6.length cb], .agg #[.int .i64 d0, .int .i64 d1, .int .i64 d2, .int .i64 d3, .int .i64 d4, .slice dA d5.length da, .slice dB d6.length db]] w fun e w' => e = .returned (.bool true) ∧ Below w.heap.size w w' := by
  have HA3 := Aside0.mk ha3
  have HA4 := Aside0.mk ha4
  have HC5 := Aside0.mk hc5
  have HC6 := Aside0.mk hc6
  have HD5 := Aside0.mk hd5
  have HD6 := Aside0.mk hd6
  have HBX := Aside0.mk hbx
  clear ha3 ha4 hc5 hc6 hd5 hd6 hbx
  have HB := Aside0.mk (below_alloc (below_alloc (below_alloc (Below.refl w.heap.size w) (.cells #[.int .i64 a0, .int .i64 a1, .int .i64 a2, .slice aA a3.length aa, .slice aB a4.length ab] 25)) (.cells #[.int .i64 c0, .int .i64 c1, .int .i64 c2, .int .i64 c3, .int .i64 c4, .slice cA c5.length ca, .slice cB c6.length cb] 31)) (.cells #[.int .i64 d0, .int .i64 d1, .int .i64 d2, .int .i64 d3, .int .i64 d4, .slice dA d5.length da, .slice dB d6.length db] 31))
  have HA := Aside0.mk (blk_later (blk_later (blk_at (w := w) (.cells #[.int .i64 a0, .int .i64 a1, .int .i64 a2, .slice aA a3.length aa, .slice aB a4.length ab] 25)) (.cells #[.int .i64 c0, .int .i64 c1, .int .i64 c2, .int .i64 c3, .int .i64 c4, .slice cA c5.length ca, .slice cB c6.length cb] 31)) (.cells #[.int .i64 d0, .int .i64 d1, .int .i64 d2, .int .i64 d3, .int .i64 d4, .slice dA d5.length da, .slice dB d6.length db] 31))
  have HC := Aside0.mk (blk_later (blk_at1 (w := w) (.cells #[.int .i64 a0, .int .i64 a1, .int .i64 a2, .slice aA a3.length aa, .slice aB a4.length ab] 25) (.cells #[.int .i64 c0, .int .i64 c1, .int .i64 c2, .int .i64 c3, .int .i64 c4, .slice cA c5.length ca, .slice cB c6.length cb] 31)) (.cells #[.int .i64 d0, .int .i64 d1, .int .i64 d2, .int .i64 d3, .int .i64 d4, .slice dA d5.length da, .slice dB d6.length db] 31))
  have HD := Aside0.mk (blk_at2 (w := w) (.cells #[.int .i64 a0, .int .i64 a1, .int .i64 a2, .slice aA a3.length aa, .slice aB a4.length ab] 25) (.cells #[.int .i64 c0, .int .i64 c1, .int .i64 c2, .int .i64 c3, .int .i64 c4, .slice cA c5.length ca, .slice cB c6.length cb] 31) (.cells #[.int .i64 d0, .int .i64 d1, .int .i64 d2, .int .i64 d3, .int .i64 d4, .slice dA d5.length da, .slice dB d6.length db] 31))
  go_enter Tryd.func5, Tryd.ntmps5
  go_wp2_with fail
  refine (HBX.out _).mono ?_
  rintro e w1 ⟨rfl, hb⟩
  replace HA := Aside0.mk (blk_call HA.out hb)
  replace HC := Aside0.mk (blk_call HC.out hb)
  replace HD := Aside0.mk (blk_call HD.out hb)
  replace HB := Aside0.mk (below_step HB.out hb)
  clear hb
  have kHA := bc0 HA.out
  have fHA := bf0 HA.out
  have yHA := blk_lt HA.out
  have kHC := bc0 HC.out
  have fHC := bf0 HC.out
  have yHC := blk_lt HC.out
  have kHD := bc0 HD.out
  have fHD := bf0 HD.out
  have yHD := blk_lt HD.out
  go_wp2
  go_ret
  exact ⟨rfl, HB.out⟩

set_option maxHeartbeats 8000000 in
set_option maxRecDepth 100000 in
theorem FlagsCommute_g2 (k : Nat) (a0 a1 a2 : Int) (aA : Option Addr) (aa : Nat) (a3 : List (S58)) (aB : Option Addr) (ab : Nat) (a4 : List (S61)) (c0 c1 c2 c3 c4 : Int) (cA : Option Addr) (ca : Nat) (c5 : List (S77)) (cB : Option Addr) (cb : Nat) (c6 : List Int) (d0 d1 d2 d3 d4 : Int) (dA : Option Addr) (da : Nat) (d5 : List (S77)) (dB : Option Addr) (db : Nat) (d6 : List Int) (w : World) (ha3 : Kd.C k58 w aA a3.length a3) (ea3 : a3.length ≤ aa) (ha4 : Kd.C k61 w aB a4.length a4) (ea4 : a4.length ≤ ab) (hc5 : Kd.C k77 w cA c5.length c5) (ec5 : c5.length ≤ ca) (hc6 : Kd.C (Kd.int .u8) w cB c6.length c6) (ec6 : c6.length ≤ cb) (hd5 : Kd.C k77 w dA d5.length d5) (ed5 : d5.length ≤ da) (hd6 : Kd.C (Kd.int .u8) w dB d6.length d6) (ed6 : d6.length ≤ db) (hbx : ∀ w, Calls Tryd.prog 8 #[] w fun e w' => e = .returned (.bool true) ∧ Below w.heap.size w w') (h1 : (c0 != 2) = false) (h2 : (d0 != 2) = true) :
    Calls Tryd.prog 5 #[.agg #[.int .i64 a0, .int .i64 a1, .int .i64 a2, .slice aA a3.length aa, .slice aB a4.length ab], .agg #[.int .i64 c0, .int .i64 c1, .int .i64 c2, .int .i64 c3, .int .i64 c4, .slice cA c5.length ca, .slice cB c6.length cb], .agg #[.int .i64 d0, .int .i64 d1, .int .i64 d2, .int .i64 d3, .int .i64 d4, .slice dA d5.length da, .slice dB d6.length db]] w fun e w' => e = .returned (.bool true) ∧ Below w.heap.size w w' := by
  have HA3 := Aside0.mk ha3
  have HA4 := Aside0.mk ha4
  have HC5 := Aside0.mk hc5
  have HC6 := Aside0.mk hc6
  have HD5 := Aside0.mk hd5
  have HD6 := Aside0.mk hd6
  have HBX := Aside0.mk hbx
  clear ha3 ha4 hc5 hc6 hd5 hd6 hbx
  have HB := Aside0.mk (below_alloc (below_alloc (below_alloc (Below.refl w.heap.size w) (.cells #[.int .i64 a0, .int .i64 a1, .int .i64 a2, .slice aA a3.length aa, .slice aB a4.length ab] 25)) (.cells #[.int .i64 c0, .int .i64 c1, .int .i64 c2, .int .i64 c3, .int .i64 c4, .slice cA c5.length ca, .slice cB c6.length cb] 31)) (.cells #[.int .i64 d0, .int .i64 d1, .int .i64 d2, .int .i64 d3, .int .i64 d4, .slice dA d5.length da, .slice dB d6.length db] 31))
  have HA := Aside0.mk (blk_later (blk_later (blk_at (w := w) (.cells #[.int .i64 a0, .int .i64 a1, .int .i64 a2, .slice aA a3.length aa, .slice aB a4.length ab] 25)) (.cells #[.int .i64 c0, .int .i64 c1, .int .i64 c2, .int .i64 c3, .int .i64 c4, .slice cA c5.length ca, .slice cB c6.length cb] 31)) (.cells #[.int .i64 d0, .int .i64 d1, .int .i64 d2, .int .i64 d3, .int .i64 d4, .slice dA d5.length da, .slice dB d6.length db] 31))
  have HC := Aside0.mk (blk_later (blk_at1 (w := w) (.cells #[.int .i64 a0, .int .i64 a1, .int .i64 a2, .slice aA a3.length aa, .slice aB a4.length ab] 25) (.cells #[.int .i64 c0, .int .i64 c1, .int .i64 c2, .int .i64 c3, .int .i64 c4, .slice cA c5.length ca, .slice cB c6.length cb] 31)) (.cells #[.int .i64 d0, .int .i64 d1, .int .i64 d2, .int .i64 d3, .int .i64 d4, .slice dA d5.length da, .slice dB d6.length db] 31))
  have HD := Aside0.mk (blk_at2 (w := w) (.cells #[.int .i64 a0, .int .i64 a1, .int .i64 a2, .slice aA a3.length aa, .slice aB a4.length ab] 25) (.cells #[.int .i64 c0, .int .i64 c1, .int .i64 c2, .int .i64 c3, .int .i64 c4, .slice cA c5.length ca, .slice cB c6.length cb] 31) (.cells #[.int .i64 d0, .int .i64 d1, .int .i64 d2, .int .i64 d3, .int .i64 d4, .slice dA d5.length da, .slice dB d6.length db] 31))
  go_enter Tryd.func5, Tryd.ntmps5
  go_wp2_with fail
  refine (HBX.out _).mono ?_
  rintro e w1 ⟨rfl, hb⟩
  replace HA := Aside0.mk (blk_call HA.out hb)
  replace HC := Aside0.mk (blk_call HC.out hb)
  replace HD := Aside0.mk (blk_call HD.out hb)
  replace HB := Aside0.mk (below_step HB.out hb)
  clear hb
  have kHA := bc0 HA.out
  have fHA := bf0 HA.out
  have yHA := blk_lt HA.out
  have kHC := bc0 HC.out
  have fHC := bf0 HC.out
  have yHC := blk_lt HC.out
  have kHD := bc0 HD.out
  have fHD := bf0 HD.out
  have yHD := blk_lt HD.out
  go_wp2
  go_ret
  exact ⟨rfl, HB.out⟩

set_option maxHeartbeats 8000000 in
set_option maxRecDepth 100000 in
theorem FlagsCommute_g3 (k : Nat) (a0 a1 a2 : Int) (aA : Option Addr) (aa : Nat) (a3 : List (S58)) (aB : Option Addr) (ab : Nat) (a4 : List (S61)) (c0 c1 c2 c3 c4 : Int) (cA : Option Addr) (ca : Nat) (c5 : List (S77)) (cB : Option Addr) (cb : Nat) (c6 : List Int) (d0 d1 d2 d3 d4 : Int) (dA : Option Addr) (da : Nat) (d5 : List (S77)) (dB : Option Addr) (db : Nat) (d6 : List Int) (w : World) (ha3 : Kd.C k58 w aA a3.length a3) (ea3 : a3.length ≤ aa) (ha4 : Kd.C k61 w aB a4.length a4) (ea4 : a4.length ≤ ab) (hc5 : Kd.C k77 w cA c5.length c5) (ec5 : c5.length ≤ ca) (hc6 : Kd.C (Kd.int .u8) w cB c6.length c6) (ec6 : c6.length ≤ cb) (hd5 : Kd.C k77 w dA d5.length d5) (ed5 : d5.length ≤ da) (hd6 : Kd.C (Kd.int .u8) w dB d6.length d6) (ed6 : d6.length ≤ db) (hbx : ∀ w, Calls Tryd.prog 8 #[] w fun e w' => e = .returned (.bool true) ∧ Below w.heap.size w w') (h1 : (c0 != 2) = false) (h2 : (d0 != 2) = false) (h3 : (c1 == d1) = true) :
    Calls Tryd.prog 5 #[.agg #[.int .i64 a0, .int .i64 a1, .int .i64 a2, .slice aA a3.length aa, .slice aB a4.length ab], .agg #[.int .i64 c0, .int .i64 c1, .int .i64 c2, .int .i64 c3, .int .i64 c4, .slice cA c5.length ca, .slice cB c6.length cb], .agg #[.int .i64 d0, .int .i64 d1, .int .i64 d2, .int .i64 d3, .int .i64 d4, .slice dA d5.length da, .slice dB d6.length db]] w fun e w' => e = .returned (.bool true) ∧ Below w.heap.size w w' := by
  have HA3 := Aside0.mk ha3
  have HA4 := Aside0.mk ha4
  have HC5 := Aside0.mk hc5
  have HC6 := Aside0.mk hc6
  have HD5 := Aside0.mk hd5
  have HD6 := Aside0.mk hd6
  have HBX := Aside0.mk hbx
  clear ha3 ha4 hc5 hc6 hd5 hd6 hbx
  have HB := Aside0.mk (below_alloc (below_alloc (below_alloc (Below.refl w.heap.size w) (.cells #[.int .i64 a0, .int .i64 a1, .int .i64 a2, .slice aA a3.length aa, .slice aB a4.length ab] 25)) (.cells #[.int .i64 c0, .int .i64 c1, .int .i64 c2, .int .i64 c3, .int .i64 c4, .slice cA c5.length ca, .slice cB c6.length cb] 31)) (.cells #[.int .i64 d0, .int .i64 d1, .int .i64 d2, .int .i64 d3, .int .i64 d4, .slice dA d5.length da, .slice dB d6.length db] 31))
  have HA := Aside0.mk (blk_later (blk_later (blk_at (w := w) (.cells #[.int .i64 a0, .int .i64 a1, .int .i64 a2, .slice aA a3.length aa, .slice aB a4.length ab] 25)) (.cells #[.int .i64 c0, .int .i64 c1, .int .i64 c2, .int .i64 c3, .int .i64 c4, .slice cA c5.length ca, .slice cB c6.length cb] 31)) (.cells #[.int .i64 d0, .int .i64 d1, .int .i64 d2, .int .i64 d3, .int .i64 d4, .slice dA d5.length da, .slice dB d6.length db] 31))
  have HC := Aside0.mk (blk_later (blk_at1 (w := w) (.cells #[.int .i64 a0, .int .i64 a1, .int .i64 a2, .slice aA a3.length aa, .slice aB a4.length ab] 25) (.cells #[.int .i64 c0, .int .i64 c1, .int .i64 c2, .int .i64 c3, .int .i64 c4, .slice cA c5.length ca, .slice cB c6.length cb] 31)) (.cells #[.int .i64 d0, .int .i64 d1, .int .i64 d2, .int .i64 d3, .int .i64 d4, .slice dA d5.length da, .slice dB d6.length db] 31))
  have HD := Aside0.mk (blk_at2 (w := w) (.cells #[.int .i64 a0, .int .i64 a1, .int .i64 a2, .slice aA a3.length aa, .slice aB a4.length ab] 25) (.cells #[.int .i64 c0, .int .i64 c1, .int .i64 c2, .int .i64 c3, .int .i64 c4, .slice cA c5.length ca, .slice cB c6.length cb] 31) (.cells #[.int .i64 d0, .int .i64 d1, .int .i64 d2, .int .i64 d3, .int .i64 d4, .slice dA d5.length da, .slice dB d6.length db] 31))
  go_enter Tryd.func5, Tryd.ntmps5
  go_wp2_with fail
  refine (HBX.out _).mono ?_
  rintro e w1 ⟨rfl, hb⟩
  replace HA := Aside0.mk (blk_call HA.out hb)
  replace HC := Aside0.mk (blk_call HC.out hb)
  replace HD := Aside0.mk (blk_call HD.out hb)
  replace HB := Aside0.mk (below_step HB.out hb)
  clear hb
  have kHA := bc0 HA.out
  have fHA := bf0 HA.out
  have yHA := blk_lt HA.out
  have kHC := bc0 HC.out
  have fHC := bf0 HC.out
  have yHC := blk_lt HC.out
  have kHD := bc0 HD.out
  have fHD := bf0 HD.out
  have yHD := blk_lt HD.out
  go_wp2
  go_ret
  exact ⟨rfl, HB.out⟩

set_option maxHeartbeats 8000000 in
set_option maxRecDepth 100000 in
theorem FlagsCommute_e1 (k : Nat) (a0 a1 a2 : Int) (aA : Option Addr) (aa : Nat) (a3 : List (S58)) (aB : Option Addr) (ab : Nat) (a4 : List (S61)) (c0 c1 c2 c3 c4 : Int) (cA : Option Addr) (ca : Nat) (c5 : List (S77)) (cB : Option Addr) (cb : Nat) (c6 : List Int) (d0 d1 d2 d3 d4 : Int) (dA : Option Addr) (da : Nat) (d5 : List (S77)) (dB : Option Addr) (db : Nat) (d6 : List Int) (w : World) (ha3 : Kd.C k58 w aA a3.length a3) (ea3 : a3.length ≤ aa) (ha4 : Kd.C k61 w aB a4.length a4) (ea4 : a4.length ≤ ab) (hc5 : Kd.C k77 w cA c5.length c5) (ec5 : c5.length ≤ ca) (hc6 : Kd.C (Kd.int .u8) w cB c6.length c6) (ec6 : c6.length ≤ cb) (hd5 : Kd.C k77 w dA d5.length d5) (ed5 : d5.length ≤ da) (hd6 : Kd.C (Kd.int .u8) w dB d6.length d6) (ed6 : d6.length ≤ db) (hbx : ∀ w, Calls Tryd.prog 8 #[] w fun e w' => e = .returned (.bool true) ∧ Below w.heap.size w w') (r0 r1 r2 : Int) (r3 : List (S58)) (r4 : List (S61)) (r5 r6 : Int) (s0 s1 s2 : Int) (s3 : List (S58)) (s4 : List (S61)) (s5 s6 : Int) (u0 u1 u2 : Int) (u3 : List (S58)) (u4 : List (S61)) (u5 u6 : Int) (v0 v1 v2 : Int) (v3 : List (S58)) (v4 : List (S61)) (v5 v6 : Int) (g1 : (c0 != 2) = false) (g2 : (d0 != 2) = false) (g3 : (c1 == d1) = false) (p1 : mailbox_Apply.f k a0 a1 a2 a3 a4 c0 c1 c2 c3 c4 c5 c6 = some (r0, r1, r2, r3, r4, r5, r6)) (p2 : mailbox_Apply.f k r0 r1 r2 r3 r4 d0 d1 d2 d3 d4 d5 d6 = some (s0, s1, s2, s3, s4, s5, s6)) (p3 : mailbox_Apply.f k a0 a1 a2 a3 a4 d0 d1 d2 d3 d4 d5 d6 = some (u0, u1, u2, u3, u4, u5, u6)) (p4 : mailbox_Apply.f k u0 u1 u2 u3 u4 c0 c1 c2 c3 c4 c5 c6 = some (v0, v1, v2, v3, v4, v5, v6)) (q1 : (r5 != 0) = true) :
    Calls Tryd.prog 5 #[.agg #[.int .i64 a0, .int .i64 a1, .int .i64 a2, .slice aA a3.length aa, .slice aB a4.length ab], .agg #[.int .i64 c0, .int .i64 c1, .int .i64 c2, .int .i64 c3, .int .i64 c4, .slice cA c5.length ca, .slice cB c6.length cb], .agg #[.int .i64 d0, .int .i64 d1, .int .i64 d2, .int .i64 d3, .int .i64 d4, .slice dA d5.length da, .slice dB d6.length db]] w fun e w' => e = .returned (.bool true) ∧ Below w.heap.size w w' := by
  have P1 := Aside0.mk p1
  have P2 := Aside0.mk p2
  have P3 := Aside0.mk p3
  have P4 := Aside0.mk p4
  clear p1 p2 p3 p4
  have HA3 := Aside0.mk ha3
  have HA4 := Aside0.mk ha4
  have HC5 := Aside0.mk hc5
  have HC6 := Aside0.mk hc6
  have HD5 := Aside0.mk hd5
  have HD6 := Aside0.mk hd6
  have HBX := Aside0.mk hbx
  clear ha3 ha4 hc5 hc6 hd5 hd6 hbx
  have HB := Aside0.mk (below_alloc (below_alloc (below_alloc (Below.refl w.heap.size w) (.cells #[.int .i64 a0, .int .i64 a1, .int .i64 a2, .slice aA a3.length aa, .slice aB a4.length ab] 25)) (.cells #[.int .i64 c0, .int .i64 c1, .int .i64 c2, .int .i64 c3, .int .i64 c4, .slice cA c5.length ca, .slice cB c6.length cb] 31)) (.cells #[.int .i64 d0, .int .i64 d1, .int .i64 d2, .int .i64 d3, .int .i64 d4, .slice dA d5.length da, .slice dB d6.length db] 31))
  have HA := Aside0.mk (blk_later (blk_later (blk_at (w := w) (.cells #[.int .i64 a0, .int .i64 a1, .int .i64 a2, .slice aA a3.length aa, .slice aB a4.length ab] 25)) (.cells #[.int .i64 c0, .int .i64 c1, .int .i64 c2, .int .i64 c3, .int .i64 c4, .slice cA c5.length ca, .slice cB c6.length cb] 31)) (.cells #[.int .i64 d0, .int .i64 d1, .int .i64 d2, .int .i64 d3, .int .i64 d4, .slice dA d5.length da, .slice dB d6.length db] 31))
  have HC := Aside0.mk (blk_later (blk_at1 (w := w) (.cells #[.int .i64 a0, .int .i64 a1, .int .i64 a2, .slice aA a3.length aa, .slice aB a4.length ab] 25) (.cells #[.int .i64 c0, .int .i64 c1, .int .i64 c2, .int .i64 c3, .int .i64 c4, .slice cA c5.length ca, .slice cB c6.length cb] 31)) (.cells #[.int .i64 d0, .int .i64 d1, .int .i64 d2, .int .i64 d3, .int .i64 d4, .slice dA d5.length da, .slice dB d6.length db] 31))
  have HD := Aside0.mk (blk_at2 (w := w) (.cells #[.int .i64 a0, .int .i64 a1, .int .i64 a2, .slice aA a3.length aa, .slice aB a4.length ab] 25) (.cells #[.int .i64 c0, .int .i64 c1, .int .i64 c2, .int .i64 c3, .int .i64 c4, .slice cA c5.length ca, .slice cB c6.length cb] 31) (.cells #[.int .i64 d0, .int .i64 d1, .int .i64 d2, .int .i64 d3, .int .i64 d4, .slice dA d5.length da, .slice dB d6.length db] 31))
  go_enter Tryd.func5, Tryd.ntmps5
  go_wp2_with fail
  refine (HBX.out _).mono ?_
  rintro e w1 ⟨rfl, hb⟩
  replace HA := Aside0.mk (blk_call HA.out hb)
  replace HC := Aside0.mk (blk_call HC.out hb)
  replace HD := Aside0.mk (blk_call HD.out hb)
  replace HB := Aside0.mk (below_step HB.out hb)
  clear hb
  have kHA := bc0 HA.out
  have fHA := bf0 HA.out
  have yHA := blk_lt HA.out
  have kHC := bc0 HC.out
  have fHC := bf0 HC.out
  have yHC := blk_lt HC.out
  have kHD := bc0 HD.out
  have fHD := bf0 HD.out
  have yHD := blk_lt HD.out
  go_wp2_with fail
  clear kHA fHA yHA kHC fHC yHC kHD fHD yHD
  refine (mailbox_Apply.calls k a0 a1 a2 aA aa a3 aB ab a4 c0 c1 c2 c3 c4 cA ca c5 cB cb c6 r0 r1 r2 r3 r4 r5 r6 _ (Kd.C_below HA3.out HB.out) ea3 (Kd.C_below HA4.out HB.out) ea4 (Kd.C_below HC5.out HB.out) ec5 (Kd.C_below HC6.out HB.out) ec6 P1.out).mono ?_
  rintro e x1 ⟨v3_, v4_, rfl, hv3_, hv4_, hb⟩
  obtain ⟨rA, ra, rfl⟩ := Kd.V_slice hv3_
  obtain ⟨rB, rb, rfl⟩ := Kd.V_slice hv4_
  have HrV := Aside0.mk hv3_
  have HrW := Aside0.mk hv4_
  clear hv3_ hv4_
  replace HA := Aside0.mk (blk_call HA.out hb)
  replace HC := Aside0.mk (blk_call HC.out hb)
  replace HD := Aside0.mk (blk_call HD.out hb)
  replace HB := Aside0.mk (below_step HB.out hb)
  clear hb
  have kHA := bc0 HA.out
  have fHA := bf0 HA.out
  have yHA := blk_lt HA.out
  have kHC := bc0 HC.out
  have fHC := bf0 HC.out
  have yHC := blk_lt HC.out
  have kHD := bc0 HD.out
  have fHD := bf0 HD.out
  have yHD := blk_lt HD.out
  go_wp2_with fail
  clear kHA fHA yHA kHC fHC yHC kHD fHD yHD
  have l1_t7 := blk_lt HA.out
  have l2_t7 := blk_lt HC.out
  have l3_t7 := blk_lt HD.out
  replace HA := Aside0.mk (blk_later HA.out (.cells #[.int .i64 r0, .int .i64 r1, .int .i64 r2, .slice rA r3.length ra, .slice rB r4.length rb] 25))
  replace HC := Aside0.mk (blk_later HC.out (.cells #[.int .i64 r0, .int .i64 r1, .int .i64 r2, .slice rA r3.length ra, .slice rB r4.length rb] 25))
  replace HD := Aside0.mk (blk_later HD.out (.cells #[.int .i64 r0, .int .i64 r1, .int .i64 r2, .slice rA r3.length ra, .slice rB r4.length rb] 25))
  replace HrV := Aside0.mk (Kd.V_alloc HrV.out (.cells #[.int .i64 r0, .int .i64 r1, .int .i64 r2, .slice rA r3.length ra, .slice rB r4.length rb] 25))
  replace HrW := Aside0.mk (Kd.V_alloc HrW.out (.cells #[.int .i64 r0, .int .i64 r1, .int .i64 r2, .slice rA r3.length ra, .slice rB r4.length rb] 25))
  replace HB := Aside0.mk (below_alloc HB.out (.cells #[.int .i64 r0, .int .i64 r1, .int .i64 r2, .slice rA r3.length ra, .slice rB r4.length rb] 25))
  have HM := Aside0.mk (blk_at (w := x1) (.cells #[.int .i64 r0, .int .i64 r1, .int .i64 r2, .slice rA r3.length ra, .slice rB r4.length rb] 25))
  have hs_t7 : (x1.alloc (.cells #[.int .i64 r0, .int .i64 r1, .int .i64 r2, .slice rA r3.length ra, .slice rB r4.length rb] 25)).heap.size = x1.heap.size + 1 := by simp
  generalize x1.alloc (.cells #[.int .i64 r0, .int .i64 r1, .int .i64 r2, .slice rA r3.length ra, .slice rB r4.length rb] 25) = X2 at *
  generalize x1.heap.size = t7 at *
  have l4_t71 := blk_lt HA.out
  have l5_t71 := blk_lt HC.out
  have l6_t71 := blk_lt HD.out
  have l7_t71 := blk_lt HM.out
  replace HA := Aside0.mk (blk_later HA.out (.cells #[.int .i64 r5, .int .i64 r6] 33))
  replace HC := Aside0.mk (blk_later HC.out (.cells #[.int .i64 r5, .int .i64 r6] 33))
  replace HD := Aside0.mk (blk_later HD.out (.cells #[.int .i64 r5, .int .i64 r6] 33))
  replace HM := Aside0.mk (blk_later HM.out (.cells #[.int .i64 r5, .int .i64 r6] 33))
  replace HrV := Aside0.mk (Kd.V_alloc HrV.out (.cells #[.int .i64 r5, .int .i64 r6] 33))
  replace HrW := Aside0.mk (Kd.V_alloc HrW.out (.cells #[.int .i64 r5, .int .i64 r6] 33))
  replace HB := Aside0.mk (below_alloc HB.out (.cells #[.int .i64 r5, .int .i64 r6] 33))
  have HE1 := Aside0.mk (blk_at (w := X2) (.cells #[.int .i64 r5, .int .i64 r6] 33))
  rw [hs_t7] at HE1 l4_t71 l5_t71 l6_t71 l7_t71
  clear hs_t7
  generalize X2.alloc (.cells #[.int .i64 r5, .int .i64 r6] 33) = X3 at *
  have l8_cs := blk_lt HA.out
  have l9_cs := blk_lt HC.out
  have l10_cs := blk_lt HD.out
  have l11_cs := blk_lt HM.out
  have l12_cs := blk_lt HE1.out
  refine (mailbox_Apply.calls k r0 r1 r2 rA ra r3 rB rb r4 d0 d1 d2 d3 d4 dA da d5 dB db d6 s0 s1 s2 s3 s4 s5 s6 _ (Kd.F_now (Kd.V_F HrV.out)) (Kd.V_at HrV.out).2.1 (Kd.F_now (Kd.V_F HrW.out)) (Kd.V_at HrW.out).2.1 (Kd.C_below HD5.out HB.out) ed5 (Kd.C_below HD6.out HB.out) ed6 P2.out).mono ?_
  rintro e x4 ⟨v3_, v4_, rfl, hv3_, hv4_, hb⟩
  obtain ⟨sA, sa, rfl⟩ := Kd.V_slice hv3_
  obtain ⟨sB, sb, rfl⟩ := Kd.V_slice hv4_
  have HsV := Aside0.mk hv3_
  have HsW := Aside0.mk hv4_
  clear hv3_ hv4_
  have hz_s := below_size hb
  replace HA := Aside0.mk (blk_call HA.out hb)
  replace HC := Aside0.mk (blk_call HC.out hb)
  replace HD := Aside0.mk (blk_call HD.out hb)
  replace HM := Aside0.mk (blk_call HM.out hb)
  replace HE1 := Aside0.mk (blk_call HE1.out hb)
  replace HrV := Aside0.mk (Kd.V_below HrV.out hb)
  replace HrW := Aside0.mk (Kd.V_below HrW.out hb)
  replace HB := Aside0.mk (below_step HB.out hb)
  clear hb
  clear HrV HrW
  have kHM := bc0 HM.out
  have fHM := bf0 HM.out
  have yHM := blk_lt HM.out
  have kHA := bc0 HA.out
  have fHA := bf0 HA.out
  have yHA := blk_lt HA.out
  have kHD := bc0 HD.out
  have fHD := bf0 HD.out
  have yHD := blk_lt HD.out
  go_wp2_with fail
  clear kHM fHM yHM kHA fHA yHA kHD fHD yHD
  replace HA := Aside0.mk (blk_far (p := ⟨t7, 4, none⟩) (blk_far (p := ⟨t7, 3, none⟩) (blk_far (p := ⟨t7, 2, none⟩) (blk_far (p := ⟨t7, 1, none⟩) (blk_far (p := ⟨t7, 0, none⟩) HA.out (show w.heap.size ≠ t7 by omega) (.int .i64 s0)) (show w.heap.size ≠ t7 by omega) (.int .i64 s1)) (show w.heap.size ≠ t7 by omega) (.int .i64 s2)) (show w.heap.size ≠ t7 by omega) (.slice sA s3.length sa)) (show w.heap.size ≠ t7 by omega) (.slice sB s4.length sb))
  replace HC := Aside0.mk (blk_far (p := ⟨t7, 4, none⟩) (blk_far (p := ⟨t7, 3, none⟩) (blk_far (p := ⟨t7, 2, none⟩) (blk_far (p := ⟨t7, 1, none⟩) (blk_far (p := ⟨t7, 0, none⟩) HC.out (show w.heap.size + 1 ≠ t7 by omega) (.int .i64 s0)) (show w.heap.size + 1 ≠ t7 by omega) (.int .i64 s1)) (show w.heap.size + 1 ≠ t7 by omega) (.int .i64 s2)) (show w.heap.size + 1 ≠ t7 by omega) (.slice sA s3.length sa)) (show w.heap.size + 1 ≠ t7 by omega) (.slice sB s4.length sb))
  replace HD := Aside0.mk (blk_far (p := ⟨t7, 4, none⟩) (blk_far (p := ⟨t7, 3, none⟩) (blk_far (p := ⟨t7, 2, none⟩) (blk_far (p := ⟨t7, 1, none⟩) (blk_far (p := ⟨t7, 0, none⟩) HD.out (show w.heap.size + 1 + 1 ≠ t7 by omega) (.int .i64 s0)) (show w.heap.size + 1 + 1 ≠ t7 by omega) (.int .i64 s1)) (show w.heap.size + 1 + 1 ≠ t7 by omega) (.int .i64 s2)) (show w.heap.size + 1 + 1 ≠ t7 by omega) (.slice sA s3.length sa)) (show w.heap.size + 1 + 1 ≠ t7 by omega) (.slice sB s4.length sb))
  replace HM : Aside0 (((((((x4).setCell ⟨t7, 0, none⟩ (.int .i64 s0)).setCell ⟨t7, 1, none⟩ (.int .i64 s1)).setCell ⟨t7, 2, none⟩ (.int .i64 s2)).setCell ⟨t7, 3, none⟩ (.slice sA s3.length sa)).setCell ⟨t7, 4, none⟩ (.slice sB s4.length sb)).heap[t7]? = some (.cells #[(.int .i64 s0), (.int .i64 s1), (.int .i64 s2), (.slice sA s3.length sa), (.slice sB s4.length sb)] 25 (0, 0))) := Aside0.mk (blk_put (blk_put (blk_put (blk_put (blk_put HM.out 0 (.int .i64 s0) rfl) 1 (.int .i64 s1) rfl) 2 (.int .i64 s2) rfl) 3 (.slice sA s3.length sa) rfl) 4 (.slice sB s4.length sb) rfl)
  replace HE1 := Aside0.mk (blk_far (p := ⟨t7, 4, none⟩) (blk_far (p := ⟨t7, 3, none⟩) (blk_far (p := ⟨t7, 2, none⟩) (blk_far (p := ⟨t7, 1, none⟩) (blk_far (p := ⟨t7, 0, none⟩) HE1.out (show t7 + 1 ≠ t7 by omega) (.int .i64 s0)) (show t7 + 1 ≠ t7 by omega) (.int .i64 s1)) (show t7 + 1 ≠ t7 by omega) (.int .i64 s2)) (show t7 + 1 ≠ t7 by omega) (.slice sA s3.length sa)) (show t7 + 1 ≠ t7 by omega) (.slice sB s4.length sb))
  replace HsV := Aside0.mk (Kd.V_far (p := ⟨t7, 4, none⟩) (Kd.V_far (p := ⟨t7, 3, none⟩) (Kd.V_far (p := ⟨t7, 2, none⟩) (Kd.V_far (p := ⟨t7, 1, none⟩) (Kd.V_far (p := ⟨t7, 0, none⟩) HsV.out (fun k_ (hk_ : X3.heap.size ≤ k_) => by show k_ ≠ t7; omega) (.int .i64 s0)) (fun k_ (hk_ : X3.heap.size ≤ k_) => by show k_ ≠ t7; omega) (.int .i64 s1)) (fun k_ (hk_ : X3.heap.size ≤ k_) => by show k_ ≠ t7; omega) (.int .i64 s2)) (fun k_ (hk_ : X3.heap.size ≤ k_) => by show k_ ≠ t7; omega) (.slice sA s3.length sa)) (fun k_ (hk_ : X3.heap.size ≤ k_) => by show k_ ≠ t7; omega) (.slice sB s4.length sb))
  replace HsW := Aside0.mk (Kd.V_far (p := ⟨t7, 4, none⟩) (Kd.V_far (p := ⟨t7, 3, none⟩) (Kd.V_far (p := ⟨t7, 2, none⟩) (Kd.V_far (p := ⟨t7, 1, none⟩) (Kd.V_far (p := ⟨t7, 0, none⟩) HsW.out (fun k_ (hk_ : X3.heap.size ≤ k_) => by show k_ ≠ t7; omega) (.int .i64 s0)) (fun k_ (hk_ : X3.heap.size ≤ k_) => by show k_ ≠ t7; omega) (.int .i64 s1)) (fun k_ (hk_ : X3.heap.size ≤ k_) => by show k_ ≠ t7; omega) (.int .i64 s2)) (fun k_ (hk_ : X3.heap.size ≤ k_) => by show k_ ≠ t7; omega) (.slice sA s3.length sa)) (fun k_ (hk_ : X3.heap.size ≤ k_) => by show k_ ≠ t7; omega) (.slice sB s4.length sb))
  replace HB := Aside0.mk (below_set (j := 4) (v := (.slice sB s4.length sb)) (below_set (j := 3) (v := (.slice sA s3.length sa)) (below_set (j := 2) (v := (.int .i64 s2)) (below_set (j := 1) (v := (.int .i64 s1)) (below_set (j := 0) (v := (.int .i64 s0)) HB.out (show w.heap.size ≤ t7 by omega)) (show w.heap.size ≤ t7 by omega)) (show w.heap.size ≤ t7 by omega)) (show w.heap.size ≤ t7 by omega)) (show w.heap.size ≤ t7 by omega))
  have hp_s : ((((((x4).setCell ⟨t7, 0, none⟩ (.int .i64 s0)).setCell ⟨t7, 1, none⟩ (.int .i64 s1)).setCell ⟨t7, 2, none⟩ (.int .i64 s2)).setCell ⟨t7, 3, none⟩ (.slice sA s3.length sa)).setCell ⟨t7, 4, none⟩ (.slice sB s4.length sb)).heap.size = x4.heap.size := by simp
  generalize (((((x4).setCell ⟨t7, 0, none⟩ (.int .i64 s0)).setCell ⟨t7, 1, none⟩ (.int .i64 s1)).setCell ⟨t7, 2, none⟩ (.int .i64 s2)).setCell ⟨t7, 3, none⟩ (.slice sA s3.length sa)).setCell ⟨t7, 4, none⟩ (.slice sB s4.length sb) = X5 at *
  have l13_t9 := blk_lt HA.out
  have l14_t9 := blk_lt HC.out
  have l15_t9 := blk_lt HD.out
  have l16_t9 := blk_lt HM.out
  have l17_t9 := blk_lt HE1.out
  replace HA := Aside0.mk (blk_later HA.out (.cells #[.int .i64 s5, .int .i64 s6] 33))
  replace HC := Aside0.mk (blk_later HC.out (.cells #[.int .i64 s5, .int .i64 s6] 33))
  replace HD := Aside0.mk (blk_later HD.out (.cells #[.int .i64 s5, .int .i64 s6] 33))
  replace HM := Aside0.mk (blk_later HM.out (.cells #[.int .i64 s5, .int .i64 s6] 33))
  replace HE1 := Aside0.mk (blk_later HE1.out (.cells #[.int .i64 s5, .int .i64 s6] 33))
  replace HsV := Aside0.mk (Kd.V_alloc HsV.out (.cells #[.int .i64 s5, .int .i64 s6] 33))
  replace HsW := Aside0.mk (Kd.V_alloc HsW.out (.cells #[.int .i64 s5, .int .i64 s6] 33))
  replace HB := Aside0.mk (below_alloc HB.out (.cells #[.int .i64 s5, .int .i64 s6] 33))
  have HE2 := Aside0.mk (blk_at (w := X5) (.cells #[.int .i64 s5, .int .i64 s6] 33))
  rw [hp_s] at HE2 l13_t9 l14_t9 l15_t9 l16_t9 l17_t9
  clear hp_s
  generalize X5.alloc (.cells #[.int .i64 s5, .int .i64 s6] 33) = X6 at *
  generalize x4.heap.size = t9 at *
  have l18_cu := blk_lt HA.out
  have l19_cu := blk_lt HC.out
  have l20_cu := blk_lt HD.out
  have l21_cu := blk_lt HM.out
  have l22_cu := blk_lt HE1.out
  have l23_cu := blk_lt HE2.out
  refine (mailbox_Apply.calls k a0 a1 a2 aA aa a3 aB ab a4 d0 d1 d2 d3 d4 dA da d5 dB db d6 u0 u1 u2 u3 u4 u5 u6 _ (Kd.C_below HA3.out HB.out) ea3 (Kd.C_below HA4.out HB.out) ea4 (Kd.C_below HD5.out HB.out) ed5 (Kd.C_below HD6.out HB.out) ed6 P3.out).mono ?_
  rintro e x7 ⟨v3_, v4_, rfl, hv3_, hv4_, hb⟩
  obtain ⟨uA, ua, rfl⟩ := Kd.V_slice hv3_
  obtain ⟨uB, ub, rfl⟩ := Kd.V_slice hv4_
  have HuV := Aside0.mk hv3_
  have HuW := Aside0.mk hv4_
  clear hv3_ hv4_
  have hz_u := below_size hb
  replace HA := Aside0.mk (blk_call HA.out hb)
  replace HC := Aside0.mk (blk_call HC.out hb)
  replace HD := Aside0.mk (blk_call HD.out hb)
  replace HM := Aside0.mk (blk_call HM.out hb)
  replace HE1 := Aside0.mk (blk_call HE1.out hb)
  replace HE2 := Aside0.mk (blk_call HE2.out hb)
  replace HsV := Aside0.mk (Kd.V_below HsV.out hb)
  replace HsW := Aside0.mk (Kd.V_below HsW.out hb)
  replace HB := Aside0.mk (below_step HB.out hb)
  clear hb
  have kHA := bc0 HA.out
  have fHA := bf0 HA.out
  have yHA := blk_lt HA.out
  have kHC := bc0 HC.out
  have fHC := bf0 HC.out
  have yHC := blk_lt HC.out
  have kHD := bc0 HD.out
  have fHD := bf0 HD.out
  have yHD := blk_lt HD.out
  go_wp2_with fail
  clear kHA fHA yHA kHC fHC yHC kHD fHD yHD
  have l24_t10 := blk_lt HA.out
  have l25_t10 := blk_lt HC.out
  have l26_t10 := blk_lt HD.out
  have l27_t10 := blk_lt HM.out
  have l28_t10 := blk_lt HE1.out
  have l29_t10 := blk_lt HE2.out
  replace HsV := Aside0.mk (Kd.V_mono (ok' := fun k_ => X3.heap.size ≤ k_ ∧ k_ ≠ x7.heap.size) (Kd.V_elderB HsV.out x7.heap.size (Nat.le_refl _)) (fun k_ hk_ => by have h1_ := hk_.1; have h2_ := hk_.2; omega))
  replace HsW := Aside0.mk (Kd.V_mono (ok' := fun k_ => X3.heap.size ≤ k_ ∧ k_ ≠ x7.heap.size) (Kd.V_elderB HsW.out x7.heap.size (Nat.le_refl _)) (fun k_ hk_ => by have h1_ := hk_.1; have h2_ := hk_.2; omega))
  replace HuV := Aside0.mk (Kd.V_mono (ok' := fun k_ => X6.heap.size ≤ k_ ∧ k_ ≠ x7.heap.size) (Kd.V_elderB HuV.out x7.heap.size (Nat.le_refl _)) (fun k_ hk_ => by have h1_ := hk_.1; have h2_ := hk_.2; omega))
  replace HuW := Aside0.mk (Kd.V_mono (ok' := fun k_ => X6.heap.size ≤ k_ ∧ k_ ≠ x7.heap.size) (Kd.V_elderB HuW.out x7.heap.size (Nat.le_refl _)) (fun k_ hk_ => by have h1_ := hk_.1; have h2_ := hk_.2; omega))
  replace HA := Aside0.mk (blk_later HA.out (.cells #[.int .i64 u0, .int .i64 u1, .int .i64 u2, .slice uA u3.length ua, .slice uB u4.length ub] 25))
  replace HC := Aside0.mk (blk_later HC.out (.cells #[.int .i64 u0, .int .i64 u1, .int .i64 u2, .slice uA u3.length ua, .slice uB u4.length ub] 25))
  replace HD := Aside0.mk (blk_later HD.out (.cells #[.int .i64 u0, .int .i64 u1, .int .i64 u2, .slice uA u3.length ua, .slice uB u4.length ub] 25))
  replace HM := Aside0.mk (blk_later HM.out (.cells #[.int .i64 u0, .int .i64 u1, .int .i64 u2, .slice uA u3.length ua, .slice uB u4.length ub] 25))
  replace HE1 := Aside0.mk (blk_later HE1.out (.cells #[.int .i64 u0, .int .i64 u1, .int .i64 u2, .slice uA u3.length ua, .slice uB u4.length ub] 25))
  replace HE2 := Aside0.mk (blk_later HE2.out (.cells #[.int .i64 u0, .int .i64 u1, .int .i64 u2, .slice uA u3.length ua, .slice uB u4.length ub] 25))
  replace HsV := Aside0.mk (Kd.V_alloc HsV.out (.cells #[.int .i64 u0, .int .i64 u1, .int .i64 u2, .slice uA u3.length ua, .slice uB u4.length ub] 25))
  replace HsW := Aside0.mk (Kd.V_alloc HsW.out (.cells #[.int .i64 u0, .int .i64 u1, .int .i64 u2, .slice uA u3.length ua, .slice uB u4.length ub] 25))
  replace HuV := Aside0.mk (Kd.V_alloc HuV.out (.cells #[.int .i64 u0, .int .i64 u1, .int .i64 u2, .slice uA u3.length ua, .slice uB u4.length ub] 25))
  replace HuW := Aside0.mk (Kd.V_alloc HuW.out (.cells #[.int .i64 u0, .int .i64 u1, .int .i64 u2, .slice uA u3.length ua, .slice uB u4.length ub] 25))
  replace HB := Aside0.mk (below_alloc HB.out (.cells #[.int .i64 u0, .int .i64 u1, .int .i64 u2, .slice uA u3.length ua, .slice uB u4.length ub] 25))
  have HN := Aside0.mk (blk_at (w := x7) (.cells #[.int .i64 u0, .int .i64 u1, .int .i64 u2, .slice uA u3.length ua, .slice uB u4.length ub] 25))
  have hs_t10 : (x7.alloc (.cells #[.int .i64 u0, .int .i64 u1, .int .i64 u2, .slice uA u3.length ua, .slice uB u4.length ub] 25)).heap.size = x7.heap.size + 1 := by simp
  generalize x7.alloc (.cells #[.int .i64 u0, .int .i64 u1, .int .i64 u2, .slice uA u3.length ua, .slice uB u4.length ub] 25) = X8 at *
  generalize x7.heap.size = t10 at *
  have l30_t101 := blk_lt HA.out
  have l31_t101 := blk_lt HC.out
  have l32_t101 := blk_lt HD.out
  have l33_t101 := blk_lt HM.out
  have l34_t101 := blk_lt HE1.out
  have l35_t101 := blk_lt HE2.out
  have l36_t101 := blk_lt HN.out
  replace HA := Aside0.mk (blk_later HA.out (.cells #[.int .i64 u5, .int .i64 u6] 33))
  replace HC := Aside0.mk (blk_later HC.out (.cells #[.int .i64 u5, .int .i64 u6] 33))
  replace HD := Aside0.mk (blk_later HD.out (.cells #[.int .i64 u5, .int .i64 u6] 33))
  replace HM := Aside0.mk (blk_later HM.out (.cells #[.int .i64 u5, .int .i64 u6] 33))
  replace HE1 := Aside0.mk (blk_later HE1.out (.cells #[.int .i64 u5, .int .i64 u6] 33))
  replace HE2 := Aside0.mk (blk_later HE2.out (.cells #[.int .i64 u5, .int .i64 u6] 33))
  replace HN := Aside0.mk (blk_later HN.out (.cells #[.int .i64 u5, .int .i64 u6] 33))
  replace HsV := Aside0.mk (Kd.V_alloc HsV.out (.cells #[.int .i64 u5, .int .i64 u6] 33))
  replace HsW := Aside0.mk (Kd.V_alloc HsW.out (.cells #[.int .i64 u5, .int .i64 u6] 33))
  replace HuV := Aside0.mk (Kd.V_alloc HuV.out (.cells #[.int .i64 u5, .int .i64 u6] 33))
  replace HuW := Aside0.mk (Kd.V_alloc HuW.out (.cells #[.int .i64 u5, .int .i64 u6] 33))
  replace HB := Aside0.mk (below_alloc HB.out (.cells #[.int .i64 u5, .int .i64 u6] 33))
  have HE3 := Aside0.mk (blk_at (w := X8) (.cells #[.int .i64 u5, .int .i64 u6] 33))
  rw [hs_t10] at HE3 l30_t101 l31_t101 l32_t101 l33_t101 l34_t101 l35_t101 l36_t101
  clear hs_t10
  generalize X8.alloc (.cells #[.int .i64 u5, .int .i64 u6] 33) = X9 at *
  have l37_cv := blk_lt HA.out
  have l38_cv := blk_lt HC.out
  have l39_cv := blk_lt HD.out
  have l40_cv := blk_lt HM.out
  have l41_cv := blk_lt HE1.out
  have l42_cv := blk_lt HE2.out
  have l43_cv := blk_lt HN.out
  have l44_cv := blk_lt HE3.out
  refine (mailbox_Apply.calls k u0 u1 u2 uA ua u3 uB ub u4 c0 c1 c2 c3 c4 cA ca c5 cB cb c6 v0 v1 v2 v3 v4 v5 v6 _ (Kd.F_now (Kd.V_F HuV.out)) (Kd.V_at HuV.out).2.1 (Kd.F_now (Kd.V_F HuW.out)) (Kd.V_at HuW.out).2.1 (Kd.C_below HC5.out HB.out) ec5 (Kd.C_below HC6.out HB.out) ec6 P4.out).mono ?_
  rintro e x10 ⟨v3_, v4_, rfl, hv3_, hv4_, hb⟩
  obtain ⟨vA, va, rfl⟩ := Kd.V_slice hv3_
  obtain ⟨vB, vb, rfl⟩ := Kd.V_slice hv4_
  have HvV := Aside0.mk hv3_
  have HvW := Aside0.mk hv4_
  clear hv3_ hv4_
  have hz_v := below_size hb
  replace HA := Aside0.mk (blk_call HA.out hb)
  replace HC := Aside0.mk (blk_call HC.out hb)
  replace HD := Aside0.mk (blk_call HD.out hb)
  replace HM := Aside0.mk (blk_call HM.out hb)
  replace HE1 := Aside0.mk (blk_call HE1.out hb)
  replace HE2 := Aside0.mk (blk_call HE2.out hb)
  replace HN := Aside0.mk (blk_call HN.out hb)
  replace HE3 := Aside0.mk (blk_call HE3.out hb)
  replace HsV := Aside0.mk (Kd.V_below HsV.out hb)
  replace HsW := Aside0.mk (Kd.V_below HsW.out hb)
  replace HuV := Aside0.mk (Kd.V_below HuV.out hb)
  replace HuW := Aside0.mk (Kd.V_below HuW.out hb)
  replace HB := Aside0.mk (below_step HB.out hb)
  clear hb
  clear HuV HuW
  have kHN := bc0 HN.out
  have fHN := bf0 HN.out
  have yHN := blk_lt HN.out
  have kHE1 := bc0 HE1.out
  have fHE1 := bf0 HE1.out
  have yHE1 := blk_lt HE1.out
  have kHE2 := bc0 HE2.out
  have fHE2 := bf0 HE2.out
  have yHE2 := blk_lt HE2.out
  have kHE3 := bc0 HE3.out
  have fHE3 := bf0 HE3.out
  have yHE3 := blk_lt HE3.out
  go_wp2
  clear kHN fHN yHN kHE1 fHE1 yHE1 kHE2 fHE2 yHE2 kHE3 fHE3 yHE3
  replace HA := Aside0.mk (blk_far (p := ⟨t10, 4, none⟩) (blk_far (p := ⟨t10, 3, none⟩) (blk_far (p := ⟨t10, 2, none⟩) (blk_far (p := ⟨t10, 1, none⟩) (blk_far (p := ⟨t10, 0, none⟩) HA.out (show w.heap.size ≠ t10 by omega) (.int .i64 v0)) (show w.heap.size ≠ t10 by omega) (.int .i64 v1)) (show w.heap.size ≠ t10 by omega) (.int .i64 v2)) (show w.heap.size ≠ t10 by omega) (.slice vA v3.length va)) (show w.heap.size ≠ t10 by omega) (.slice vB v4.length vb))
  replace HC := Aside0.mk (blk_far (p := ⟨t10, 4, none⟩) (blk_far (p := ⟨t10, 3, none⟩) (blk_far (p := ⟨t10, 2, none⟩) (blk_far (p := ⟨t10, 1, none⟩) (blk_far (p := ⟨t10, 0, none⟩) HC.out (show w.heap.size + 1 ≠ t10 by omega) (.int .i64 v0)) (show w.heap.size + 1 ≠ t10 by omega) (.int .i64 v1)) (show w.heap.size + 1 ≠ t10 by omega) (.int .i64 v2)) (show w.heap.size + 1 ≠ t10 by omega) (.slice vA v3.length va)) (show w.heap.size + 1 ≠ t10 by omega) (.slice vB v4.length vb))
  replace HD := Aside0.mk (blk_far (p := ⟨t10, 4, none⟩) (blk_far (p := ⟨t10, 3, none⟩) (blk_far (p := ⟨t10, 2, none⟩) (blk_far (p := ⟨t10, 1, none⟩) (blk_far (p := ⟨t10, 0, none⟩) HD.out (show w.heap.size + 1 + 1 ≠ t10 by omega) (.int .i64 v0)) (show w.heap.size + 1 + 1 ≠ t10 by omega) (.int .i64 v1)) (show w.heap.size + 1 + 1 ≠ t10 by omega) (.int .i64 v2)) (show w.heap.size + 1 + 1 ≠ t10 by omega) (.slice vA v3.length va)) (show w.heap.size + 1 + 1 ≠ t10 by omega) (.slice vB v4.length vb))
  replace HM := Aside0.mk (blk_far (p := ⟨t10, 4, none⟩) (blk_far (p := ⟨t10, 3, none⟩) (blk_far (p := ⟨t10, 2, none⟩) (blk_far (p := ⟨t10, 1, none⟩) (blk_far (p := ⟨t10, 0, none⟩) HM.out (show t7 ≠ t10 by omega) (.int .i64 v0)) (show t7 ≠ t10 by omega) (.int .i64 v1)) (show t7 ≠ t10 by omega) (.int .i64 v2)) (show t7 ≠ t10 by omega) (.slice vA v3.length va)) (show t7 ≠ t10 by omega) (.slice vB v4.length vb))
  replace HE1 := Aside0.mk (blk_far (p := ⟨t10, 4, none⟩) (blk_far (p := ⟨t10, 3, none⟩) (blk_far (p := ⟨t10, 2, none⟩) (blk_far (p := ⟨t10, 1, none⟩) (blk_far (p := ⟨t10, 0, none⟩) HE1.out (show t7 + 1 ≠ t10 by omega) (.int .i64 v0)) (show t7 + 1 ≠ t10 by omega) (.int .i64 v1)) (show t7 + 1 ≠ t10 by omega) (.int .i64 v2)) (show t7 + 1 ≠ t10 by omega) (.slice vA v3.length va)) (show t7 + 1 ≠ t10 by omega) (.slice vB v4.length vb))
  replace HE2 := Aside0.mk (blk_far (p := ⟨t10, 4, none⟩) (blk_far (p := ⟨t10, 3, none⟩) (blk_far (p := ⟨t10, 2, none⟩) (blk_far (p := ⟨t10, 1, none⟩) (blk_far (p := ⟨t10, 0, none⟩) HE2.out (show t9 ≠ t10 by omega) (.int .i64 v0)) (show t9 ≠ t10 by omega) (.int .i64 v1)) (show t9 ≠ t10 by omega) (.int .i64 v2)) (show t9 ≠ t10 by omega) (.slice vA v3.length va)) (show t9 ≠ t10 by omega) (.slice vB v4.length vb))
  replace HN : Aside0 (((((((x10).setCell ⟨t10, 0, none⟩ (.int .i64 v0)).setCell ⟨t10, 1, none⟩ (.int .i64 v1)).setCell ⟨t10, 2, none⟩ (.int .i64 v2)).setCell ⟨t10, 3, none⟩ (.slice vA v3.length va)).setCell ⟨t10, 4, none⟩ (.slice vB v4.length vb)).heap[t10]? = some (.cells #[(.int .i64 v0), (.int .i64 v1), (.int .i64 v2), (.slice vA v3.length va), (.slice vB v4.length vb)] 25 (0, 0))) := Aside0.mk (blk_put (blk_put (blk_put (blk_put (blk_put HN.out 0 (.int .i64 v0) rfl) 1 (.int .i64 v1) rfl) 2 (.int .i64 v2) rfl) 3 (.slice vA v3.length va) rfl) 4 (.slice vB v4.length vb) rfl)
  replace HE3 := Aside0.mk (blk_far (p := ⟨t10, 4, none⟩) (blk_far (p := ⟨t10, 3, none⟩) (blk_far (p := ⟨t10, 2, none⟩) (blk_far (p := ⟨t10, 1, none⟩) (blk_far (p := ⟨t10, 0, none⟩) HE3.out (show t10 + 1 ≠ t10 by omega) (.int .i64 v0)) (show t10 + 1 ≠ t10 by omega) (.int .i64 v1)) (show t10 + 1 ≠ t10 by omega) (.int .i64 v2)) (show t10 + 1 ≠ t10 by omega) (.slice vA v3.length va)) (show t10 + 1 ≠ t10 by omega) (.slice vB v4.length vb))
  replace HsV := Aside0.mk (Kd.V_far (p := ⟨t10, 4, none⟩) (Kd.V_far (p := ⟨t10, 3, none⟩) (Kd.V_far (p := ⟨t10, 2, none⟩) (Kd.V_far (p := ⟨t10, 1, none⟩) (Kd.V_far (p := ⟨t10, 0, none⟩) HsV.out (fun k_ (hk_ : X3.heap.size ≤ k_ ∧ k_ ≠ t10) => by show k_ ≠ t10; omega) (.int .i64 v0)) (fun k_ (hk_ : X3.heap.size ≤ k_ ∧ k_ ≠ t10) => by show k_ ≠ t10; omega) (.int .i64 v1)) (fun k_ (hk_ : X3.heap.size ≤ k_ ∧ k_ ≠ t10) => by show k_ ≠ t10; omega) (.int .i64 v2)) (fun k_ (hk_ : X3.heap.size ≤ k_ ∧ k_ ≠ t10) => by show k_ ≠ t10; omega) (.slice vA v3.length va)) (fun k_ (hk_ : X3.heap.size ≤ k_ ∧ k_ ≠ t10) => by show k_ ≠ t10; omega) (.slice vB v4.length vb))
  replace HsW := Aside0.mk (Kd.V_far (p := ⟨t10, 4, none⟩) (Kd.V_far (p := ⟨t10, 3, none⟩) (Kd.V_far (p := ⟨t10, 2, none⟩) (Kd.V_far (p := ⟨t10, 1, none⟩) (Kd.V_far (p := ⟨t10, 0, none⟩) HsW.out (fun k_ (hk_ : X3.heap.size ≤ k_ ∧ k_ ≠ t10) => by show k_ ≠ t10; omega) (.int .i64 v0)) (fun k_ (hk_ : X3.heap.size ≤ k_ ∧ k_ ≠ t10) => by show k_ ≠ t10; omega) (.int .i64 v1)) (fun k_ (hk_ : X3.heap.size ≤ k_ ∧ k_ ≠ t10) => by show k_ ≠ t10; omega) (.int .i64 v2)) (fun k_ (hk_ : X3.heap.size ≤ k_ ∧ k_ ≠ t10) => by show k_ ≠ t10; omega) (.slice vA v3.length va)) (fun k_ (hk_ : X3.heap.size ≤ k_ ∧ k_ ≠ t10) => by show k_ ≠ t10; omega) (.slice vB v4.length vb))
  replace HvV := Aside0.mk (Kd.V_far (p := ⟨t10, 4, none⟩) (Kd.V_far (p := ⟨t10, 3, none⟩) (Kd.V_far (p := ⟨t10, 2, none⟩) (Kd.V_far (p := ⟨t10, 1, none⟩) (Kd.V_far (p := ⟨t10, 0, none⟩) HvV.out (fun k_ (hk_ : X9.heap.size ≤ k_) => by show k_ ≠ t10; omega) (.int .i64 v0)) (fun k_ (hk_ : X9.heap.size ≤ k_) => by show k_ ≠ t10; omega) (.int .i64 v1)) (fun k_ (hk_ : X9.heap.size ≤ k_) => by show k_ ≠ t10; omega) (.int .i64 v2)) (fun k_ (hk_ : X9.heap.size ≤ k_) => by show k_ ≠ t10; omega) (.slice vA v3.length va)) (fun k_ (hk_ : X9.heap.size ≤ k_) => by show k_ ≠ t10; omega) (.slice vB v4.length vb))
  replace HvW := Aside0.mk (Kd.V_far (p := ⟨t10, 4, none⟩) (Kd.V_far (p := ⟨t10, 3, none⟩) (Kd.V_far (p := ⟨t10, 2, none⟩) (Kd.V_far (p := ⟨t10, 1, none⟩) (Kd.V_far (p := ⟨t10, 0, none⟩) HvW.out (fun k_ (hk_ : X9.heap.size ≤ k_) => by show k_ ≠ t10; omega) (.int .i64 v0)) (fun k_ (hk_ : X9.heap.size ≤ k_) => by show k_ ≠ t10; omega) (.int .i64 v1)) (fun k_ (hk_ : X9.heap.size ≤ k_) => by show k_ ≠ t10; omega) (.int .i64 v2)) (fun k_ (hk_ : X9.heap.size ≤ k_) => by show k_ ≠ t10; omega) (.slice vA v3.length va)) (fun k_ (hk_ : X9.heap.size ≤ k_) => by show k_ ≠ t10; omega) (.slice vB v4.length vb))
  replace HB := Aside0.mk (below_set (j := 4) (v := (.slice vB v4.length vb)) (below_set (j := 3) (v := (.slice vA v3.length va)) (below_set (j := 2) (v := (.int .i64 v2)) (below_set (j := 1) (v := (.int .i64 v1)) (below_set (j := 0) (v := (.int .i64 v0)) HB.out (show w.heap.size ≤ t10 by omega)) (show w.heap.size ≤ t10 by omega)) (show w.heap.size ≤ t10 by omega)) (show w.heap.size ≤ t10 by omega)) (show w.heap.size ≤ t10 by omega))
  have hp_v : ((((((x10).setCell ⟨t10, 0, none⟩ (.int .i64 v0)).setCell ⟨t10, 1, none⟩ (.int .i64 v1)).setCell ⟨t10, 2, none⟩ (.int .i64 v2)).setCell ⟨t10, 3, none⟩ (.slice vA v3.length va)).setCell ⟨t10, 4, none⟩ (.slice vB v4.length vb)).heap.size = x10.heap.size := by simp
  generalize (((((x10).setCell ⟨t10, 0, none⟩ (.int .i64 v0)).setCell ⟨t10, 1, none⟩ (.int .i64 v1)).setCell ⟨t10, 2, none⟩ (.int .i64 v2)).setCell ⟨t10, 3, none⟩ (.slice vA v3.length va)).setCell ⟨t10, 4, none⟩ (.slice vB v4.length vb) = X11 at *
  have l45_t12 := blk_lt HA.out
  have l46_t12 := blk_lt HC.out
  have l47_t12 := blk_lt HD.out
  have l48_t12 := blk_lt HM.out
  have l49_t12 := blk_lt HE1.out
  have l50_t12 := blk_lt HE2.out
  have l51_t12 := blk_lt HN.out
  have l52_t12 := blk_lt HE3.out
  replace HA := Aside0.mk (blk_later HA.out (.cells #[.int .i64 v5, .int .i64 v6] 33))
  replace HC := Aside0.mk (blk_later HC.out (.cells #[.int .i64 v5, .int .i64 v6] 33))
  replace HD := Aside0.mk (blk_later HD.out (.cells #[.int .i64 v5, .int .i64 v6] 33))
  replace HM := Aside0.mk (blk_later HM.out (.cells #[.int .i64 v5, .int .i64 v6] 33))
  replace HE1 := Aside0.mk (blk_later HE1.out (.cells #[.int .i64 v5, .int .i64 v6] 33))
  replace HE2 := Aside0.mk (blk_later HE2.out (.cells #[.int .i64 v5, .int .i64 v6] 33))
  replace HN := Aside0.mk (blk_later HN.out (.cells #[.int .i64 v5, .int .i64 v6] 33))
  replace HE3 := Aside0.mk (blk_later HE3.out (.cells #[.int .i64 v5, .int .i64 v6] 33))
  replace HsV := Aside0.mk (Kd.V_alloc HsV.out (.cells #[.int .i64 v5, .int .i64 v6] 33))
  replace HsW := Aside0.mk (Kd.V_alloc HsW.out (.cells #[.int .i64 v5, .int .i64 v6] 33))
  replace HvV := Aside0.mk (Kd.V_alloc HvV.out (.cells #[.int .i64 v5, .int .i64 v6] 33))
  replace HvW := Aside0.mk (Kd.V_alloc HvW.out (.cells #[.int .i64 v5, .int .i64 v6] 33))
  replace HB := Aside0.mk (below_alloc HB.out (.cells #[.int .i64 v5, .int .i64 v6] 33))
  have HE4 := Aside0.mk (blk_at (w := X11) (.cells #[.int .i64 v5, .int .i64 v6] 33))
  rw [hp_v] at HE4 l45_t12 l46_t12 l47_t12 l48_t12 l49_t12 l50_t12 l51_t12 l52_t12
  clear hp_v
  generalize X11.alloc (.cells #[.int .i64 v5, .int .i64 v6] 33) = X12 at *
  generalize x10.heap.size = t12 at *
  go_ret
  exact ⟨rfl, HB.out⟩

set_option maxHeartbeats 8000000 in
set_option maxRecDepth 100000 in
theorem FlagsCommute_e2 (k : Nat) (a0 a1 a2 : Int) (aA : Option Addr) (aa : Nat) (a3 : List (S58)) (aB : Option Addr) (ab : Nat) (a4 : List (S61)) (c0 c1 c2 c3 c4 : Int) (cA : Option Addr) (ca : Nat) (c5 : List (S77)) (cB : Option Addr) (cb : Nat) (c6 : List Int) (d0 d1 d2 d3 d4 : Int) (dA : Option Addr) (da : Nat) (d5 : List (S77)) (dB : Option Addr) (db : Nat) (d6 : List Int) (w : World) (ha3 : Kd.C k58 w aA a3.length a3) (ea3 : a3.length ≤ aa) (ha4 : Kd.C k61 w aB a4.length a4) (ea4 : a4.length ≤ ab) (hc5 : Kd.C k77 w cA c5.length c5) (ec5 : c5.length ≤ ca) (hc6 : Kd.C (Kd.int .u8) w cB c6.length c6) (ec6 : c6.length ≤ cb) (hd5 : Kd.C k77 w dA d5.length d5) (ed5 : d5.length ≤ da) (hd6 : Kd.C (Kd.int .u8) w dB d6.length d6) (ed6 : d6.length ≤ db) (hbx : ∀ w, Calls Tryd.prog 8 #[] w fun e w' => e = .returned (.bool true) ∧ Below w.heap.size w w') (r0 r1 r2 : Int) (r3 : List (S58)) (r4 : List (S61)) (r5 r6 : Int) (s0 s1 s2 : Int) (s3 : List (S58)) (s4 : List (S61)) (s5 s6 : Int) (u0 u1 u2 : Int) (u3 : List (S58)) (u4 : List (S61)) (u5 u6 : Int) (v0 v1 v2 : Int) (v3 : List (S58)) (v4 : List (S61)) (v5 v6 : Int) (g1 : (c0 != 2) = false) (g2 : (d0 != 2) = false) (g3 : (c1 == d1) = false) (p1 : mailbox_Apply.f k a0 a1 a2 a3 a4 c0 c1 c2 c3 c4 c5 c6 = some (r0, r1, r2, r3, r4, r5, r6)) (p2 : mailbox_Apply.f k r0 r1 r2 r3 r4 d0 d1 d2 d3 d4 d5 d6 = some (s0, s1, s2, s3, s4, s5, s6)) (p3 : mailbox_Apply.f k a0 a1 a2 a3 a4 d0 d1 d2 d3 d4 d5 d6 = some (u0, u1, u2, u3, u4, u5, u6)) (p4 : mailbox_Apply.f k u0 u1 u2 u3 u4 c0 c1 c2 c3 c4 c5 c6 = some (v0, v1, v2, v3, v4, v5, v6)) (q1 : (r5 != 0) = false) (q2 : (s5 != 0) = true) :
    Calls Tryd.prog 5 #[.agg #[.int .i64 a0, .int .i64 a1, .int .i64 a2, .slice aA a3.length aa, .slice aB a4.length ab], .agg #[.int .i64 c0, .int .i64 c1, .int .i64 c2, .int .i64 c3, .int .i64 c4, .slice cA c5.length ca, .slice cB c6.length cb], .agg #[.int .i64 d0, .int .i64 d1, .int .i64 d2, .int .i64 d3, .int .i64 d4, .slice dA d5.length da, .slice dB d6.length db]] w fun e w' => e = .returned (.bool true) ∧ Below w.heap.size w w' := by
  have P1 := Aside0.mk p1
  have P2 := Aside0.mk p2
  have P3 := Aside0.mk p3
  have P4 := Aside0.mk p4
  clear p1 p2 p3 p4
  have HA3 := Aside0.mk ha3
  have HA4 := Aside0.mk ha4
  have HC5 := Aside0.mk hc5
  have HC6 := Aside0.mk hc6
  have HD5 := Aside0.mk hd5
  have HD6 := Aside0.mk hd6
  have HBX := Aside0.mk hbx
  clear ha3 ha4 hc5 hc6 hd5 hd6 hbx
  have HB := Aside0.mk (below_alloc (below_alloc (below_alloc (Below.refl w.heap.size w) (.cells #[.int .i64 a0, .int .i64 a1, .int .i64 a2, .slice aA a3.length aa, .slice aB a4.length ab] 25)) (.cells #[.int .i64 c0, .int .i64 c1, .int .i64 c2, .int .i64 c3, .int .i64 c4, .slice cA c5.length ca, .slice cB c6.length cb] 31)) (.cells #[.int .i64 d0, .int .i64 d1, .int .i64 d2, .int .i64 d3, .int .i64 d4, .slice dA d5.length da, .slice dB d6.length db] 31))
  have HA := Aside0.mk (blk_later (blk_later (blk_at (w := w) (.cells #[.int .i64 a0, .int .i64 a1, .int .i64 a2, .slice aA a3.length aa, .slice aB a4.length ab] 25)) (.cells #[.int .i64 c0, .int .i64 c1, .int .i64 c2, .int .i64 c3, .int .i64 c4, .slice cA c5.length ca, .slice cB c6.length cb] 31)) (.cells #[.int .i64 d0, .int .i64 d1, .int .i64 d2, .int .i64 d3, .int .i64 d4, .slice dA d5.length da, .slice dB d6.length db] 31))
  have HC := Aside0.mk (blk_later (blk_at1 (w := w) (.cells #[.int .i64 a0, .int .i64 a1, .int .i64 a2, .slice aA a3.length aa, .slice aB a4.length ab] 25) (.cells #[.int .i64 c0, .int .i64 c1, .int .i64 c2, .int .i64 c3, .int .i64 c4, .slice cA c5.length ca, .slice cB c6.length cb] 31)) (.cells #[.int .i64 d0, .int .i64 d1, .int .i64 d2, .int .i64 d3, .int .i64 d4, .slice dA d5.length da, .slice dB d6.length db] 31))
  have HD := Aside0.mk (blk_at2 (w := w) (.cells #[.int .i64 a0, .int .i64 a1, .int .i64 a2, .slice aA a3.length aa, .slice aB a4.length ab] 25) (.cells #[.int .i64 c0, .int .i64 c1, .int .i64 c2, .int .i64 c3, .int .i64 c4, .slice cA c5.length ca, .slice cB c6.length cb] 31) (.cells #[.int .i64 d0, .int .i64 d1, .int .i64 d2, .int .i64 d3, .int .i64 d4, .slice dA d5.length da, .slice dB d6.length db] 31))
  go_enter Tryd.func5, Tryd.ntmps5
  go_wp2_with fail
  refine (HBX.out _).mono ?_
  rintro e w1 ⟨rfl, hb⟩
  replace HA := Aside0.mk (blk_call HA.out hb)
  replace HC := Aside0.mk (blk_call HC.out hb)
  replace HD := Aside0.mk (blk_call HD.out hb)
  replace HB := Aside0.mk (below_step HB.out hb)
  clear hb
  have kHA := bc0 HA.out
  have fHA := bf0 HA.out
  have yHA := blk_lt HA.out
  have kHC := bc0 HC.out
  have fHC := bf0 HC.out
  have yHC := blk_lt HC.out
  have kHD := bc0 HD.out
  have fHD := bf0 HD.out
  have yHD := blk_lt HD.out
  go_wp2_with fail
  clear kHA fHA yHA kHC fHC yHC kHD fHD yHD
  refine (mailbox_Apply.calls k a0 a1 a2 aA aa a3 aB ab a4 c0 c1 c2 c3 c4 cA ca c5 cB cb c6 r0 r1 r2 r3 r4 r5 r6 _ (Kd.C_below HA3.out HB.out) ea3 (Kd.C_below HA4.out HB.out) ea4 (Kd.C_below HC5.out HB.out) ec5 (Kd.C_below HC6.out HB.out) ec6 P1.out).mono ?_
  rintro e x1 ⟨v3_, v4_, rfl, hv3_, hv4_, hb⟩
  obtain ⟨rA, ra, rfl⟩ := Kd.V_slice hv3_
  obtain ⟨rB, rb, rfl⟩ := Kd.V_slice hv4_
  have HrV := Aside0.mk hv3_
  have HrW := Aside0.mk hv4_
  clear hv3_ hv4_
  replace HA := Aside0.mk (blk_call HA.out hb)
  replace HC := Aside0.mk (blk_call HC.out hb)
  replace HD := Aside0.mk (blk_call HD.out hb)
  replace HB := Aside0.mk (below_step HB.out hb)
  clear hb
  have kHA := bc0 HA.out
  have fHA := bf0 HA.out
  have yHA := blk_lt HA.out
  have kHC := bc0 HC.out
  have fHC := bf0 HC.out
  have yHC := blk_lt HC.out
  have kHD := bc0 HD.out
  have fHD := bf0 HD.out
  have yHD := blk_lt HD.out
  go_wp2_with fail
  clear kHA fHA yHA kHC fHC yHC kHD fHD yHD
  have l1_t7 := blk_lt HA.out
  have l2_t7 := blk_lt HC.out
  have l3_t7 := blk_lt HD.out
  replace HA := Aside0.mk (blk_later HA.out (.cells #[.int .i64 r0, .int .i64 r1, .int .i64 r2, .slice rA r3.length ra, .slice rB r4.length rb] 25))
  replace HC := Aside0.mk (blk_later HC.out (.cells #[.int .i64 r0, .int .i64 r1, .int .i64 r2, .slice rA r3.length ra, .slice rB r4.length rb] 25))
  replace HD := Aside0.mk (blk_later HD.out (.cells #[.int .i64 r0, .int .i64 r1, .int .i64 r2, .slice rA r3.length ra, .slice rB r4.length rb] 25))
  replace HrV := Aside0.mk (Kd.V_alloc HrV.out (.cells #[.int .i64 r0, .int .i64 r1, .int .i64 r2, .slice rA r3.length ra, .slice rB r4.length rb] 25))
  replace HrW := Aside0.mk (Kd.V_alloc HrW.out (.cells #[.int .i64 r0, .int .i64 r1, .int .i64 r2, .slice rA r3.length ra, .slice rB r4.length rb] 25))
  replace HB := Aside0.mk (below_alloc HB.out (.cells #[.int .i64 r0, .int .i64 r1, .int .i64 r2, .slice rA r3.length ra, .slice rB r4.length rb] 25))
  have HM := Aside0.mk (blk_at (w := x1) (.cells #[.int .i64 r0, .int .i64 r1, .int .i64 r2, .slice rA r3.length ra, .slice rB r4.length rb] 25))
  have hs_t7 : (x1.alloc (.cells #[.int .i64 r0, .int .i64 r1, .int .i64 r2, .slice rA r3.length ra, .slice rB r4.length rb] 25)).heap.size = x1.heap.size + 1 := by simp
  generalize x1.alloc (.cells #[.int .i64 r0, .int .i64 r1, .int .i64 r2, .slice rA r3.length ra, .slice rB r4.length rb] 25) = X2 at *
  generalize x1.heap.size = t7 at *
  have l4_t71 := blk_lt HA.out
  have l5_t71 := blk_lt HC.out
  have l6_t71 := blk_lt HD.out
  have l7_t71 := blk_lt HM.out
  replace HA := Aside0.mk (blk_later HA.out (.cells #[.int .i64 r5, .int .i64 r6] 33))
  replace HC := Aside0.mk (blk_later HC.out (.cells #[.int .i64 r5, .int .i64 r6] 33))
  replace HD := Aside0.mk (blk_later HD.out (.cells #[.int .i64 r5, .int .i64 r6] 33))
  replace HM := Aside0.mk (blk_later HM.out (.cells #[.int .i64 r5, .int .i64 r6] 33))
  replace HrV := Aside0.mk (Kd.V_alloc HrV.out (.cells #[.int .i64 r5, .int .i64 r6] 33))
  replace HrW := Aside0.mk (Kd.V_alloc HrW.out (.cells #[.int .i64 r5, .int .i64 r6] 33))
  replace HB := Aside0.mk (below_alloc HB.out (.cells #[.int .i64 r5, .int .i64 r6] 33))
  have HE1 := Aside0.mk (blk_at (w := X2) (.cells #[.int .i64 r5, .int .i64 r6] 33))
  rw [hs_t7] at HE1 l4_t71 l5_t71 l6_t71 l7_t71
  clear hs_t7
  generalize X2.alloc (.cells #[.int .i64 r5, .int .i64 r6] 33) = X3 at *
  have l8_cs := blk_lt HA.out
  have l9_cs := blk_lt HC.out
  have l10_cs := blk_lt HD.out
  have l11_cs := blk_lt HM.out
  have l12_cs := blk_lt HE1.out
  refine (mailbox_Apply.calls k r0 r1 r2 rA ra r3 rB rb r4 d0 d1 d2 d3 d4 dA da d5 dB db d6 s0 s1 s2 s3 s4 s5 s6 _ (Kd.F_now (Kd.V_F HrV.out)) (Kd.V_at HrV.out).2.1 (Kd.F_now (Kd.V_F HrW.out)) (Kd.V_at HrW.out).2.1 (Kd.C_below HD5.out HB.out) ed5 (Kd.C_below HD6.out HB.out) ed6 P2.out).mono ?_
  rintro e x4 ⟨v3_, v4_, rfl, hv3_, hv4_, hb⟩
  obtain ⟨sA, sa, rfl⟩ := Kd.V_slice hv3_
  obtain ⟨sB, sb, rfl⟩ := Kd.V_slice hv4_
  have HsV := Aside0.mk hv3_
  have HsW := Aside0.mk hv4_
  clear hv3_ hv4_
  have hz_s := below_size hb
  replace HA := Aside0.mk (blk_call HA.out hb)
  replace HC := Aside0.mk (blk_call HC.out hb)
  replace HD := Aside0.mk (blk_call HD.out hb)
  replace HM := Aside0.mk (blk_call HM.out hb)
  replace HE1 := Aside0.mk (blk_call HE1.out hb)
  replace HrV := Aside0.mk (Kd.V_below HrV.out hb)
  replace HrW := Aside0.mk (Kd.V_below HrW.out hb)
  replace HB := Aside0.mk (below_step HB.out hb)
  clear hb
  clear HrV HrW
  have kHM := bc0 HM.out
  have fHM := bf0 HM.out
  have yHM := blk_lt HM.out
  have kHA := bc0 HA.out
  have fHA := bf0 HA.out
  have yHA := blk_lt HA.out
  have kHD := bc0 HD.out
  have fHD := bf0 HD.out
  have yHD := blk_lt HD.out
  go_wp2_with fail
  clear kHM fHM yHM kHA fHA yHA kHD fHD yHD
  replace HA := Aside0.mk (blk_far (p := ⟨t7, 4, none⟩) (blk_far (p := ⟨t7, 3, none⟩) (blk_far (p := ⟨t7, 2, none⟩) (blk_far (p := ⟨t7, 1, none⟩) (blk_far (p := ⟨t7, 0, none⟩) HA.out (show w.heap.size ≠ t7 by omega) (.int .i64 s0)) (show w.heap.size ≠ t7 by omega) (.int .i64 s1)) (show w.heap.size ≠ t7 by omega) (.int .i64 s2)) (show w.heap.size ≠ t7 by omega) (.slice sA s3.length sa)) (show w.heap.size ≠ t7 by omega) (.slice sB s4.length sb))
  replace HC := Aside0.mk (blk_far (p := ⟨t7, 4, none⟩) (blk_far (p := ⟨t7, 3, none⟩) (blk_far (p := ⟨t7, 2, none⟩) (blk_far (p := ⟨t7, 1, none⟩) (blk_far (p := ⟨t7, 0, none⟩) HC.out (show w.heap.size + 1 ≠ t7 by omega) (.int .i64 s0)) (show w.heap.size + 1 ≠ t7 by omega) (.int .i64 s1)) (show w.heap.size + 1 ≠ t7 by omega) (.int .i64 s2)) (show w.heap.size + 1 ≠ t7 by omega) (.slice sA s3.length sa)) (show w.heap.size + 1 ≠ t7 by omega) (.slice sB s4.length sb))
  replace HD := Aside0.mk (blk_far (p := ⟨t7, 4, none⟩) (blk_far (p := ⟨t7, 3, none⟩) (blk_far (p := ⟨t7, 2, none⟩) (blk_far (p := ⟨t7, 1, none⟩) (blk_far (p := ⟨t7, 0, none⟩) HD.out (show w.heap.size + 1 + 1 ≠ t7 by omega) (.int .i64 s0)) (show w.heap.size + 1 + 1 ≠ t7 by omega) (.int .i64 s1)) (show w.heap.size + 1 + 1 ≠ t7 by omega) (.int .i64 s2)) (show w.heap.size + 1 + 1 ≠ t7 by omega) (.slice sA s3.length sa)) (show w.heap.size + 1 + 1 ≠ t7 by omega) (.slice sB s4.length sb))
  replace HM : Aside0 (((((((x4).setCell ⟨t7, 0, none⟩ (.int .i64 s0)).setCell ⟨t7, 1, none⟩ (.int .i64 s1)).setCell ⟨t7, 2, none⟩ (.int .i64 s2)).setCell ⟨t7, 3, none⟩ (.slice sA s3.length sa)).setCell ⟨t7, 4, none⟩ (.slice sB s4.length sb)).heap[t7]? = some (.cells #[(.int .i64 s0), (.int .i64 s1), (.int .i64 s2), (.slice sA s3.length sa), (.slice sB s4.length sb)] 25 (0, 0))) := Aside0.mk (blk_put (blk_put (blk_put (blk_put (blk_put HM.out 0 (.int .i64 s0) rfl) 1 (.int .i64 s1) rfl) 2 (.int .i64 s2) rfl) 3 (.slice sA s3.length sa) rfl) 4 (.slice sB s4.length sb) rfl)
  replace HE1 := Aside0.mk (blk_far (p := ⟨t7, 4, none⟩) (blk_far (p := ⟨t7, 3, none⟩) (blk_far (p := ⟨t7, 2, none⟩) (blk_far (p := ⟨t7, 1, none⟩) (blk_far (p := ⟨t7, 0, none⟩) HE1.out (show t7 + 1 ≠ t7 by omega) (.int .i64 s0)) (show t7 + 1 ≠ t7 by omega) (.int .i64 s1)) (show t7 + 1 ≠ t7 by omega) (.int .i64 s2)) (show t7 + 1 ≠ t7 by omega) (.slice sA s3.length sa)) (show t7 + 1 ≠ t7 by omega) (.slice sB s4.length sb))
  replace HsV := Aside0.mk (Kd.V_far (p := ⟨t7, 4, none⟩) (Kd.V_far (p := ⟨t7, 3, none⟩) (Kd.V_far (p := ⟨t7, 2, none⟩) (Kd.V_far (p := ⟨t7, 1, none⟩) (Kd.V_far (p := ⟨t7, 0, none⟩) HsV.out (fun k_ (hk_ : X3.heap.size ≤ k_) => by show k_ ≠ t7; omega) (.int .i64 s0)) (fun k_ (hk_ : X3.heap.size ≤ k_) => by show k_ ≠ t7; omega) (.int .i64 s1)) (fun k_ (hk_ : X3.heap.size ≤ k_) => by show k_ ≠ t7; omega) (.int .i64 s2)) (fun k_ (hk_ : X3.heap.size ≤ k_) => by show k_ ≠ t7; omega) (.slice sA s3.length sa)) (fun k_ (hk_ : X3.heap.size ≤ k_) => by show k_ ≠ t7; omega) (.slice sB s4.length sb))
  replace HsW := Aside0.mk (Kd.V_far (p := ⟨t7, 4, none⟩) (Kd.V_far (p := ⟨t7, 3, none⟩) (Kd.V_far (p := ⟨t7, 2, none⟩) (Kd.V_far (p := ⟨t7, 1, none⟩) (Kd.V_far (p := ⟨t7, 0, none⟩) HsW.out (fun k_ (hk_ : X3.heap.size ≤ k_) => by show k_ ≠ t7; omega) (.int .i64 s0)) (fun k_ (hk_ : X3.heap.size ≤ k_) => by show k_ ≠ t7; omega) (.int .i64 s1)) (fun k_ (hk_ : X3.heap.size ≤ k_) => by show k_ ≠ t7; omega) (.int .i64 s2)) (fun k_ (hk_ : X3.heap.size ≤ k_) => by show k_ ≠ t7; omega) (.slice sA s3.length sa)) (fun k_ (hk_ : X3.heap.size ≤ k_) => by show k_ ≠ t7; omega) (.slice sB s4.length sb))
  replace HB := Aside0.mk (below_set (j := 4) (v := (.slice sB s4.length sb)) (below_set (j := 3) (v := (.slice sA s3.length sa)) (below_set (j := 2) (v := (.int .i64 s2)) (below_set (j := 1) (v := (.int .i64 s1)) (below_set (j := 0) (v := (.int .i64 s0)) HB.out (show w.heap.size ≤ t7 by omega)) (show w.heap.size ≤ t7 by omega)) (show w.heap.size ≤ t7 by omega)) (show w.heap.size ≤ t7 by omega)) (show w.heap.size ≤ t7 by omega))
  have hp_s : ((((((x4).setCell ⟨t7, 0, none⟩ (.int .i64 s0)).setCell ⟨t7, 1, none⟩ (.int .i64 s1)).setCell ⟨t7, 2, none⟩ (.int .i64 s2)).setCell ⟨t7, 3, none⟩ (.slice sA s3.length sa)).setCell ⟨t7, 4, none⟩ (.slice sB s4.length sb)).heap.size = x4.heap.size := by simp
  generalize (((((x4).setCell ⟨t7, 0, none⟩ (.int .i64 s0)).setCell ⟨t7, 1, none⟩ (.int .i64 s1)).setCell ⟨t7, 2, none⟩ (.int .i64 s2)).setCell ⟨t7, 3, none⟩ (.slice sA s3.length sa)).setCell ⟨t7, 4, none⟩ (.slice sB s4.length sb) = X5 at *
  have l13_t9 := blk_lt HA.out
  have l14_t9 := blk_lt HC.out
  have l15_t9 := blk_lt HD.out
  have l16_t9 := blk_lt HM.out
  have l17_t9 := blk_lt HE1.out
  replace HA := Aside0.mk (blk_later HA.out (.cells #[.int .i64 s5, .int .i64 s6] 33))
  replace HC := Aside0.mk (blk_later HC.out (.cells #[.int .i64 s5, .int .i64 s6] 33))
  replace HD := Aside0.mk (blk_later HD.out (.cells #[.int .i64 s5, .int .i64 s6] 33))
  replace HM := Aside0.mk (blk_later HM.out (.cells #[.int .i64 s5, .int .i64 s6] 33))
  replace HE1 := Aside0.mk (blk_later HE1.out (.cells #[.int .i64 s5, .int .i64 s6] 33))
  replace HsV := Aside0.mk (Kd.V_alloc HsV.out (.cells #[.int .i64 s5, .int .i64 s6] 33))
  replace HsW := Aside0.mk (Kd.V_alloc HsW.out (.cells #[.int .i64 s5, .int .i64 s6] 33))
  replace HB := Aside0.mk (below_alloc HB.out (.cells #[.int .i64 s5, .int .i64 s6] 33))
  have HE2 := Aside0.mk (blk_at (w := X5) (.cells #[.int .i64 s5, .int .i64 s6] 33))
  rw [hp_s] at HE2 l13_t9 l14_t9 l15_t9 l16_t9 l17_t9
  clear hp_s
  generalize X5.alloc (.cells #[.int .i64 s5, .int .i64 s6] 33) = X6 at *
  generalize x4.heap.size = t9 at *
  have l18_cu := blk_lt HA.out
  have l19_cu := blk_lt HC.out
  have l20_cu := blk_lt HD.out
  have l21_cu := blk_lt HM.out
  have l22_cu := blk_lt HE1.out
  have l23_cu := blk_lt HE2.out
  refine (mailbox_Apply.calls k a0 a1 a2 aA aa a3 aB ab a4 d0 d1 d2 d3 d4 dA da d5 dB db d6 u0 u1 u2 u3 u4 u5 u6 _ (Kd.C_below HA3.out HB.out) ea3 (Kd.C_below HA4.out HB.out) ea4 (Kd.C_below HD5.out HB.out) ed5 (Kd.C_below HD6.out HB.out) ed6 P3.out).mono ?_
  rintro e x7 ⟨v3_, v4_, rfl, hv3_, hv4_, hb⟩
  obtain ⟨uA, ua, rfl⟩ := Kd.V_slice hv3_
  obtain ⟨uB, ub, rfl⟩ := Kd.V_slice hv4_
  have HuV := Aside0.mk hv3_
  have HuW := Aside0.mk hv4_
  clear hv3_ hv4_
  have hz_u := below_size hb
  replace HA := Aside0.mk (blk_call HA.out hb)
  replace HC := Aside0.mk (blk_call HC.out hb)
  replace HD := Aside0.mk (blk_call HD.out hb)
  replace HM := Aside0.mk (blk_call HM.out hb)
  replace HE1 := Aside0.mk (blk_call HE1.out hb)
  replace HE2 := Aside0.mk (blk_call HE2.out hb)
  replace HsV := Aside0.mk (Kd.V_below HsV.out hb)
  replace HsW := Aside0.mk (Kd.V_below HsW.out hb)
  replace HB := Aside0.mk (below_step HB.out hb)
  clear hb
  have kHA := bc0 HA.out
  have fHA := bf0 HA.out
  have yHA := blk_lt HA.out
  have kHC := bc0 HC.out
  have fHC := bf0 HC.out
  have yHC := blk_lt HC.out
  have kHD := bc0 HD.out
  have fHD := bf0 HD.out
  have yHD := blk_lt HD.out
  go_wp2_with fail
  clear kHA fHA yHA kHC fHC yHC kHD fHD yHD
  have l24_t10 := blk_lt HA.out
  have l25_t10 := blk_lt HC.out
  have l26_t10 := blk_lt HD.out
  have l27_t10 := blk_lt HM.out
  have l28_t10 := blk_lt HE1.out
  have l29_t10 := blk_lt HE2.out
  replace HsV := Aside0.mk (Kd.V_mono (ok' := fun k_ => X3.heap.size ≤ k_ ∧ k_ ≠ x7.heap.size) (Kd.V_elderB HsV.out x7.heap.size (Nat.le_refl _)) (fun k_ hk_ => by have h1_ := hk_.1; have h2_ := hk_.2; omega))
  replace HsW := Aside0.mk (Kd.V_mono (ok' := fun k_ => X3.heap.size ≤ k_ ∧ k_ ≠ x7.heap.size) (Kd.V_elderB HsW.out x7.heap.size (Nat.le_refl _)) (fun k_ hk_ => by have h1_ := hk_.1; have h2_ := hk_.2; omega))
  replace HuV := Aside0.mk (Kd.V_mono (ok' := fun k_ => X6.heap.size ≤ k_ ∧ k_ ≠ x7.heap.size) (Kd.V_elderB HuV.out x7.heap.size (Nat.le_refl _)) (fun k_ hk_ => by have h1_ := hk_.1; have h2_ := hk_.2; omega))
  replace HuW := Aside0.mk (Kd.V_mono (ok' := fun k_ => X6.heap.size ≤ k_ ∧ k_ ≠ x7.heap.size) (Kd.V_elderB HuW.out x7.heap.size (Nat.le_refl _)) (fun k_ hk_ => by have h1_ := hk_.1; have h2_ := hk_.2; omega))
  replace HA := Aside0.mk (blk_later HA.out (.cells #[.int .i64 u0, .int .i64 u1, .int .i64 u2, .slice uA u3.length ua, .slice uB u4.length ub] 25))
  replace HC := Aside0.mk (blk_later HC.out (.cells #[.int .i64 u0, .int .i64 u1, .int .i64 u2, .slice uA u3.length ua, .slice uB u4.length ub] 25))
  replace HD := Aside0.mk (blk_later HD.out (.cells #[.int .i64 u0, .int .i64 u1, .int .i64 u2, .slice uA u3.length ua, .slice uB u4.length ub] 25))
  replace HM := Aside0.mk (blk_later HM.out (.cells #[.int .i64 u0, .int .i64 u1, .int .i64 u2, .slice uA u3.length ua, .slice uB u4.length ub] 25))
  replace HE1 := Aside0.mk (blk_later HE1.out (.cells #[.int .i64 u0, .int .i64 u1, .int .i64 u2, .slice uA u3.length ua, .slice uB u4.length ub] 25))
  replace HE2 := Aside0.mk (blk_later HE2.out (.cells #[.int .i64 u0, .int .i64 u1, .int .i64 u2, .slice uA u3.length ua, .slice uB u4.length ub] 25))
  replace HsV := Aside0.mk (Kd.V_alloc HsV.out (.cells #[.int .i64 u0, .int .i64 u1, .int .i64 u2, .slice uA u3.length ua, .slice uB u4.length ub] 25))
  replace HsW := Aside0.mk (Kd.V_alloc HsW.out (.cells #[.int .i64 u0, .int .i64 u1, .int .i64 u2, .slice uA u3.length ua, .slice uB u4.length ub] 25))
  replace HuV := Aside0.mk (Kd.V_alloc HuV.out (.cells #[.int .i64 u0, .int .i64 u1, .int .i64 u2, .slice uA u3.length ua, .slice uB u4.length ub] 25))
  replace HuW := Aside0.mk (Kd.V_alloc HuW.out (.cells #[.int .i64 u0, .int .i64 u1, .int .i64 u2, .slice uA u3.length ua, .slice uB u4.length ub] 25))
  replace HB := Aside0.mk (below_alloc HB.out (.cells #[.int .i64 u0, .int .i64 u1, .int .i64 u2, .slice uA u3.length ua, .slice uB u4.length ub] 25))
  have HN := Aside0.mk (blk_at (w := x7) (.cells #[.int .i64 u0, .int .i64 u1, .int .i64 u2, .slice uA u3.length ua, .slice uB u4.length ub] 25))
  have hs_t10 : (x7.alloc (.cells #[.int .i64 u0, .int .i64 u1, .int .i64 u2, .slice uA u3.length ua, .slice uB u4.length ub] 25)).heap.size = x7.heap.size + 1 := by simp
  generalize x7.alloc (.cells #[.int .i64 u0, .int .i64 u1, .int .i64 u2, .slice uA u3.length ua, .slice uB u4.length ub] 25) = X8 at *
  generalize x7.heap.size = t10 at *
  have l30_t101 := blk_lt HA.out
  have l31_t101 := blk_lt HC.out
  have l32_t101 := blk_lt HD.out
  have l33_t101 := blk_lt HM.out
  have l34_t101 := blk_lt HE1.out
  have l35_t101 := blk_lt HE2.out
  have l36_t101 := blk_lt HN.out
  replace HA := Aside0.mk (blk_later HA.out (.cells #[.int .i64 u5, .int .i64 u6] 33))
  replace HC := Aside0.mk (blk_later HC.out (.cells #[.int .i64 u5, .int .i64 u6] 33))
  replace HD := Aside0.mk (blk_later HD.out (.cells #[.int .i64 u5, .int .i64 u6] 33))
  replace HM := Aside0.mk (blk_later HM.out (.cells #[.int .i64 u5, .int .i64 u6] 33))
  replace HE1 := Aside0.mk (blk_later HE1.out (.cells #[.int .i64 u5, .int .i64 u6] 33))
  replace HE2 := Aside0.mk (blk_later HE2.out (.cells #[.int .i64 u5, .int .i64 u6] 33))
  replace HN := Aside0.mk (blk_later HN.out (.cells #[.int .i64 u5, .int .i64 u6] 33))
  replace HsV := Aside0.mk (Kd.V_alloc HsV.out (.cells #[.int .i64 u5, .int .i64 u6] 33))
  replace HsW := Aside0.mk (Kd.V_alloc HsW.out (.cells #[.int .i64 u5, .int .i64 u6] 33))
  replace HuV := Aside0.mk (Kd.V_alloc HuV.out (.cells #[.int .i64 u5, .int .i64 u6] 33))
  replace HuW := Aside0.mk (Kd.V_alloc HuW.out (.cells #[.int .i64 u5, .int .i64 u6] 33))
  replace HB := Aside0.mk (below_alloc HB.out (.cells #[.int .i64 u5, .int .i64 u6] 33))
  have HE3 := Aside0.mk (blk_at (w := X8) (.cells #[.int .i64 u5, .int .i64 u6] 33))
  rw [hs_t10] at HE3 l30_t101 l31_t101 l32_t101 l33_t101 l34_t101 l35_t101 l36_t101
  clear hs_t10
  generalize X8.alloc (.cells #[.int .i64 u5, .int .i64 u6] 33) = X9 at *
  have l37_cv := blk_lt HA.out
  have l38_cv := blk_lt HC.out
  have l39_cv := blk_lt HD.out
  have l40_cv := blk_lt HM.out
  have l41_cv := blk_lt HE1.out
  have l42_cv := blk_lt HE2.out
  have l43_cv := blk_lt HN.out
  have l44_cv := blk_lt HE3.out
  refine (mailbox_Apply.calls k u0 u1 u2 uA ua u3 uB ub u4 c0 c1 c2 c3 c4 cA ca c5 cB cb c6 v0 v1 v2 v3 v4 v5 v6 _ (Kd.F_now (Kd.V_F HuV.out)) (Kd.V_at HuV.out).2.1 (Kd.F_now (Kd.V_F HuW.out)) (Kd.V_at HuW.out).2.1 (Kd.C_below HC5.out HB.out) ec5 (Kd.C_below HC6.out HB.out) ec6 P4.out).mono ?_
  rintro e x10 ⟨v3_, v4_, rfl, hv3_, hv4_, hb⟩
  obtain ⟨vA, va, rfl⟩ := Kd.V_slice hv3_
  obtain ⟨vB, vb, rfl⟩ := Kd.V_slice hv4_
  have HvV := Aside0.mk hv3_
  have HvW := Aside0.mk hv4_
  clear hv3_ hv4_
  have hz_v := below_size hb
  replace HA := Aside0.mk (blk_call HA.out hb)
  replace HC := Aside0.mk (blk_call HC.out hb)
  replace HD := Aside0.mk (blk_call HD.out hb)
  replace HM := Aside0.mk (blk_call HM.out hb)
  replace HE1 := Aside0.mk (blk_call HE1.out hb)
  replace HE2 := Aside0.mk (blk_call HE2.out hb)
  replace HN := Aside0.mk (blk_call HN.out hb)
  replace HE3 := Aside0.mk (blk_call HE3.out hb)
  replace HsV := Aside0.mk (Kd.V_below HsV.out hb)
  replace HsW := Aside0.mk (Kd.V_below HsW.out hb)
  replace HuV := Aside0.mk (Kd.V_below HuV.out hb)
  replace HuW := Aside0.mk (Kd.V_below HuW.out hb)
  replace HB := Aside0.mk (below_step HB.out hb)
  clear hb
  clear HuV HuW
  have kHN := bc0 HN.out
  have fHN := bf0 HN.out
  have yHN := blk_lt HN.out
  have kHE1 := bc0 HE1.out
  have fHE1 := bf0 HE1.out
  have yHE1 := blk_lt HE1.out
  have kHE2 := bc0 HE2.out
  have fHE2 := bf0 HE2.out
  have yHE2 := blk_lt HE2.out
  have kHE3 := bc0 HE3.out
  have fHE3 := bf0 HE3.out
  have yHE3 := blk_lt HE3.out
  go_wp2
  clear kHN fHN yHN kHE1 fHE1 yHE1 kHE2 fHE2 yHE2 kHE3 fHE3 yHE3
  replace HA := Aside0.mk (blk_far (p := ⟨t10, 4, none⟩) (blk_far (p := ⟨t10, 3, none⟩) (blk_far (p := ⟨t10, 2, none⟩) (blk_far (p := ⟨t10, 1, none⟩) (blk_far (p := ⟨t10, 0, none⟩) HA.out (show w.heap.size ≠ t10 by omega) (.int .i64 v0)) (show w.heap.size ≠ t10 by omega) (.int .i64 v1)) (show w.heap.size ≠ t10 by omega) (.int .i64 v2)) (show w.heap.size ≠ t10 by omega) (.slice vA v3.length va)) (show w.heap.size ≠ t10 by omega) (.slice vB v4.length vb))
  replace HC := Aside0.mk (blk_far (p := ⟨t10, 4, none⟩) (blk_far (p := ⟨t10, 3, none⟩) (blk_far (p := ⟨t10, 2, none⟩) (blk_far (p := ⟨t10, 1, none⟩) (blk_far (p := ⟨t10, 0, none⟩) HC.out (show w.heap.size + 1 ≠ t10 by omega) (.int .i64 v0)) (show w.heap.size + 1 ≠ t10 by omega) (.int .i64 v1)) (show w.heap.size + 1 ≠ t10 by omega) (.int .i64 v2)) (show w.heap.size + 1 ≠ t10 by omega) (.slice vA v3.length va)) (show w.heap.size + 1 ≠ t10 by omega) (.slice vB v4.length vb))
  replace HD := Aside0.mk (blk_far (p := ⟨t10, 4, none⟩) (blk_far (p := ⟨t10, 3, none⟩) (blk_far (p := ⟨t10, 2, none⟩) (blk_far (p := ⟨t10, 1, none⟩) (blk_far (p := ⟨t10, 0, none⟩) HD.out (show w.heap.size + 1 + 1 ≠ t10 by omega) (.int .i64 v0)) (show w.heap.size + 1 + 1 ≠ t10 by omega) (.int .i64 v1)) (show w.heap.size + 1 + 1 ≠ t10 by omega) (.int .i64 v2)) (show w.heap.size + 1 + 1 ≠ t10 by omega) (.slice vA v3.length va)) (show w.heap.size + 1 + 1 ≠ t10 by omega) (.slice vB v4.length vb))
  replace HM := Aside0.mk (blk_far (p := ⟨t10, 4, none⟩) (blk_far (p := ⟨t10, 3, none⟩) (blk_far (p := ⟨t10, 2, none⟩) (blk_far (p := ⟨t10, 1, none⟩) (blk_far (p := ⟨t10, 0, none⟩) HM.out (show t7 ≠ t10 by omega) (.int .i64 v0)) (show t7 ≠ t10 by omega) (.int .i64 v1)) (show t7 ≠ t10 by omega) (.int .i64 v2)) (show t7 ≠ t10 by omega) (.slice vA v3.length va)) (show t7 ≠ t10 by omega) (.slice vB v4.length vb))
  replace HE1 := Aside0.mk (blk_far (p := ⟨t10, 4, none⟩) (blk_far (p := ⟨t10, 3, none⟩) (blk_far (p := ⟨t10, 2, none⟩) (blk_far (p := ⟨t10, 1, none⟩) (blk_far (p := ⟨t10, 0, none⟩) HE1.out (show t7 + 1 ≠ t10 by omega) (.int .i64 v0)) (show t7 + 1 ≠ t10 by omega) (.int .i64 v1)) (show t7 + 1 ≠ t10 by omega) (.int .i64 v2)) (show t7 + 1 ≠ t10 by omega) (.slice vA v3.length va)) (show t7 + 1 ≠ t10 by omega) (.slice vB v4.length vb))
  replace HE2 := Aside0.mk (blk_far (p := ⟨t10, 4, none⟩) (blk_far (p := ⟨t10, 3, none⟩) (blk_far (p := ⟨t10, 2, none⟩) (blk_far (p := ⟨t10, 1, none⟩) (blk_far (p := ⟨t10, 0, none⟩) HE2.out (show t9 ≠ t10 by omega) (.int .i64 v0)) (show t9 ≠ t10 by omega) (.int .i64 v1)) (show t9 ≠ t10 by omega) (.int .i64 v2)) (show t9 ≠ t10 by omega) (.slice vA v3.length va)) (show t9 ≠ t10 by omega) (.slice vB v4.length vb))
  replace HN : Aside0 (((((((x10).setCell ⟨t10, 0, none⟩ (.int .i64 v0)).setCell ⟨t10, 1, none⟩ (.int .i64 v1)).setCell ⟨t10, 2, none⟩ (.int .i64 v2)).setCell ⟨t10, 3, none⟩ (.slice vA v3.length va)).setCell ⟨t10, 4, none⟩ (.slice vB v4.length vb)).heap[t10]? = some (.cells #[(.int .i64 v0), (.int .i64 v1), (.int .i64 v2), (.slice vA v3.length va), (.slice vB v4.length vb)] 25 (0, 0))) := Aside0.mk (blk_put (blk_put (blk_put (blk_put (blk_put HN.out 0 (.int .i64 v0) rfl) 1 (.int .i64 v1) rfl) 2 (.int .i64 v2) rfl) 3 (.slice vA v3.length va) rfl) 4 (.slice vB v4.length vb) rfl)
  replace HE3 := Aside0.mk (blk_far (p := ⟨t10, 4, none⟩) (blk_far (p := ⟨t10, 3, none⟩) (blk_far (p := ⟨t10, 2, none⟩) (blk_far (p := ⟨t10, 1, none⟩) (blk_far (p := ⟨t10, 0, none⟩) HE3.out (show t10 + 1 ≠ t10 by omega) (.int .i64 v0)) (show t10 + 1 ≠ t10 by omega) (.int .i64 v1)) (show t10 + 1 ≠ t10 by omega) (.int .i64 v2)) (show t10 + 1 ≠ t10 by omega) (.slice vA v3.length va)) (show t10 + 1 ≠ t10 by omega) (.slice vB v4.length vb))
  replace HsV := Aside0.mk (Kd.V_far (p := ⟨t10, 4, none⟩) (Kd.V_far (p := ⟨t10, 3, none⟩) (Kd.V_far (p := ⟨t10, 2, none⟩) (Kd.V_far (p := ⟨t10, 1, none⟩) (Kd.V_far (p := ⟨t10, 0, none⟩) HsV.out (fun k_ (hk_ : X3.heap.size ≤ k_ ∧ k_ ≠ t10) => by show k_ ≠ t10; omega) (.int .i64 v0)) (fun k_ (hk_ : X3.heap.size ≤ k_ ∧ k_ ≠ t10) => by show k_ ≠ t10; omega) (.int .i64 v1)) (fun k_ (hk_ : X3.heap.size ≤ k_ ∧ k_ ≠ t10) => by show k_ ≠ t10; omega) (.int .i64 v2)) (fun k_ (hk_ : X3.heap.size ≤ k_ ∧ k_ ≠ t10) => by show k_ ≠ t10; omega) (.slice vA v3.length va)) (fun k_ (hk_ : X3.heap.size ≤ k_ ∧ k_ ≠ t10) => by show k_ ≠ t10; omega) (.slice vB v4.length vb))
  replace HsW := Aside0.mk (Kd.V_far (p := ⟨t10, 4, none⟩) (Kd.V_far (p := ⟨t10, 3, none⟩) (Kd.V_far (p := ⟨t10, 2, none⟩) (Kd.V_far (p := ⟨t10, 1, none⟩) (Kd.V_far (p := ⟨t10, 0, none⟩) HsW.out (fun k_ (hk_ : X3.heap.size ≤ k_ ∧ k_ ≠ t10) => by show k_ ≠ t10; omega) (.int .i64 v0)) (fun k_ (hk_ : X3.heap.size ≤ k_ ∧ k_ ≠ t10) => by show k_ ≠ t10; omega) (.int .i64 v1)) (fun k_ (hk_ : X3.heap.size ≤ k_ ∧ k_ ≠ t10) => by show k_ ≠ t10; omega) (.int .i64 v2)) (fun k_ (hk_ : X3.heap.size ≤ k_ ∧ k_ ≠ t10) => by show k_ ≠ t10; omega) (.slice vA v3.length va)) (fun k_ (hk_ : X3.heap.size ≤ k_ ∧ k_ ≠ t10) => by show k_ ≠ t10; omega) (.slice vB v4.length vb))
  replace HvV := Aside0.mk (Kd.V_far (p := ⟨t10, 4, none⟩) (Kd.V_far (p := ⟨t10, 3, none⟩) (Kd.V_far (p := ⟨t10, 2, none⟩) (Kd.V_far (p := ⟨t10, 1, none⟩) (Kd.V_far (p := ⟨t10, 0, none⟩) HvV.out (fun k_ (hk_ : X9.heap.size ≤ k_) => by show k_ ≠ t10; omega) (.int .i64 v0)) (fun k_ (hk_ : X9.heap.size ≤ k_) => by show k_ ≠ t10; omega) (.int .i64 v1)) (fun k_ (hk_ : X9.heap.size ≤ k_) => by show k_ ≠ t10; omega) (.int .i64 v2)) (fun k_ (hk_ : X9.heap.size ≤ k_) => by show k_ ≠ t10; omega) (.slice vA v3.length va)) (fun k_ (hk_ : X9.heap.size ≤ k_) => by show k_ ≠ t10; omega) (.slice vB v4.length vb))
  replace HvW := Aside0.mk (Kd.V_far (p := ⟨t10, 4, none⟩) (Kd.V_far (p := ⟨t10, 3, none⟩) (Kd.V_far (p := ⟨t10, 2, none⟩) (Kd.V_far (p := ⟨t10, 1, none⟩) (Kd.V_far (p := ⟨t10, 0, none⟩) HvW.out (fun k_ (hk_ : X9.heap.size ≤ k_) => by show k_ ≠ t10; omega) (.int .i64 v0)) (fun k_ (hk_ : X9.heap.size ≤ k_) => by show k_ ≠ t10; omega) (.int .i64 v1)) (fun k_ (hk_ : X9.heap.size ≤ k_) => by show k_ ≠ t10; omega) (.int .i64 v2)) (fun k_ (hk_ : X9.heap.size ≤ k_) => by show k_ ≠ t10; omega) (.slice vA v3.length va)) (fun k_ (hk_ : X9.heap.size ≤ k_) => by show k_ ≠ t10; omega) (.slice vB v4.length vb))
  replace HB := Aside0.mk (below_set (j := 4) (v := (.slice vB v4.length vb)) (below_set (j := 3) (v := (.slice vA v3.length va)) (below_set (j := 2) (v := (.int .i64 v2)) (below_set (j := 1) (v := (.int .i64 v1)) (below_set (j := 0) (v := (.int .i64 v0)) HB.out (show w.heap.size ≤ t10 by omega)) (show w.heap.size ≤ t10 by omega)) (show w.heap.size ≤ t10 by omega)) (show w.heap.size ≤ t10 by omega)) (show w.heap.size ≤ t10 by omega))
  have hp_v : ((((((x10).setCell ⟨t10, 0, none⟩ (.int .i64 v0)).setCell ⟨t10, 1, none⟩ (.int .i64 v1)).setCell ⟨t10, 2, none⟩ (.int .i64 v2)).setCell ⟨t10, 3, none⟩ (.slice vA v3.length va)).setCell ⟨t10, 4, none⟩ (.slice vB v4.length vb)).heap.size = x10.heap.size := by simp
  generalize (((((x10).setCell ⟨t10, 0, none⟩ (.int .i64 v0)).setCell ⟨t10, 1, none⟩ (.int .i64 v1)).setCell ⟨t10, 2, none⟩ (.int .i64 v2)).setCell ⟨t10, 3, none⟩ (.slice vA v3.length va)).setCell ⟨t10, 4, none⟩ (.slice vB v4.length vb) = X11 at *
  have l45_t12 := blk_lt HA.out
  have l46_t12 := blk_lt HC.out
  have l47_t12 := blk_lt HD.out
  have l48_t12 := blk_lt HM.out
  have l49_t12 := blk_lt HE1.out
  have l50_t12 := blk_lt HE2.out
  have l51_t12 := blk_lt HN.out
  have l52_t12 := blk_lt HE3.out
  replace HA := Aside0.mk (blk_later HA.out (.cells #[.int .i64 v5, .int .i64 v6] 33))
  replace HC := Aside0.mk (blk_later HC.out (.cells #[.int .i64 v5, .int .i64 v6] 33))
  replace HD := Aside0.mk (blk_later HD.out (.cells #[.int .i64 v5, .int .i64 v6] 33))
  replace HM := Aside0.mk (blk_later HM.out (.cells #[.int .i64 v5, .int .i64 v6] 33))
  replace HE1 := Aside0.mk (blk_later HE1.out (.cells #[.int .i64 v5, .int .i64 v6] 33))
  replace HE2 := Aside0.mk (blk_later HE2.out (.cells #[.int .i64 v5, .int .i64 v6] 33))
  replace HN := Aside0.mk (blk_later HN.out (.cells #[.int .i64 v5, .int .i64 v6] 33))
  replace HE3 := Aside0.mk (blk_later HE3.out (.cells #[.int .i64 v5, .int .i64 v6] 33))
  replace HsV := Aside0.mk (Kd.V_alloc HsV.out (.cells #[.int .i64 v5, .int .i64 v6] 33))
  replace HsW := Aside0.mk (Kd.V_alloc HsW.out (.cells #[.int .i64 v5, .int .i64 v6] 33))
  replace HvV := Aside0.mk (Kd.V_alloc HvV.out (.cells #[.int .i64 v5, .int .i64 v6] 33))
  replace HvW := Aside0.mk (Kd.V_alloc HvW.out (.cells #[.int .i64 v5, .int .i64 v6] 33))
  replace HB := Aside0.mk (below_alloc HB.out (.cells #[.int .i64 v5, .int .i64 v6] 33))
  have HE4 := Aside0.mk (blk_at (w := X11) (.cells #[.int .i64 v5, .int .i64 v6] 33))
  rw [hp_v] at HE4 l45_t12 l46_t12 l47_t12 l48_t12 l49_t12 l50_t12 l51_t12 l52_t12
  clear hp_v
  generalize X11.alloc (.cells #[.int .i64 v5, .int .i64 v6] 33) = X12 at *
  generalize x10.heap.size = t12 at *
  go_ret
  exact ⟨rfl, HB.out⟩

set_option maxHeartbeats 8000000 in
set_option maxRecDepth 100000 in
theorem FlagsCommute_e3 (k : Nat) (a0 a1 a2 : Int) (aA : Option Addr) (aa : Nat) (a3 : List (S58)) (aB : Option Addr) (ab : Nat) (a4 : List (S61)) (c0 c1 c2 c3 c4 : Int) (cA : Option Addr) (ca : Nat) (c5 : List (S77)) (cB : Option Addr) (cb : Nat) (c6 : List Int) (d0 d1 d2 d3 d4 : Int) (dA : Option Addr) (da : Nat) (d5 : List (S77)) (dB : Option Addr) (db : Nat) (d6 : List Int) (w : World) (ha3 : Kd.C k58 w aA a3.length a3) (ea3 : a3.length ≤ aa) (ha4 : Kd.C k61 w aB a4.length a4) (ea4 : a4.length ≤ ab) (hc5 : Kd.C k77 w cA c5.length c5) (ec5 : c5.length ≤ ca) (hc6 : Kd.C (Kd.int .u8) w cB c6.length c6) (ec6 : c6.length ≤ cb) (hd5 : Kd.C k77 w dA d5.length d5) (ed5 : d5.length ≤ da) (hd6 : Kd.C (Kd.int .u8) w dB d6.length d6) (ed6 : d6.length ≤ db) (hbx : ∀ w, Calls Tryd.prog 8 #[] w fun e w' => e = .returned (.bool true) ∧ Below w.heap.size w w') (r0 r1 r2 : Int) (r3 : List (S58)) (r4 : List (S61)) (r5 r6 : Int) (s0 s1 s2 : Int) (s3 : List (S58)) (s4 : List (S61)) (s5 s6 : Int) (u0 u1 u2 : Int) (u3 : List (S58)) (u4 : List (S61)) (u5 u6 : Int) (v0 v1 v2 : Int) (v3 : List (S58)) (v4 : List (S61)) (v5 v6 : Int) (g1 : (c0 != 2) = false) (g2 : (d0 != 2) = false) (g3 : (c1 == d1) = false) (p1 : mailbox_Apply.f k a0 a1 a2 a3 a4 c0 c1 c2 c3 c4 c5 c6 = some (r0, r1, r2, r3, r4, r5, r6)) (p2 : mailbox_Apply.f k r0 r1 r2 r3 r4 d0 d1 d2 d3 d4 d5 d6 = some (s0, s1, s2, s3, s4, s5, s6)) (p3 : mailbox_Apply.f k a0 a1 a2 a3 a4 d0 d1 d2 d3 d4 d5 d6 = some (u0, u1, u2, u3, u4, u5, u6)) (p4 : mailbox_Apply.f k u0 u1 u2 u3 u4 c0 c1 c2 c3 c4 c5 c6 = some (v0, v1, v2, v3, v4, v5, v6)) (q1 : (r5 != 0) = false) (q2 : (s5 != 0) = false) (q3 : (u5 != 0) = true) :
    Calls Tryd.prog 5 #[.agg #[.int .i64 a0, .int .i64 a1, .int .i64 a2, .slice aA a3.length aa, .slice aB a4.length ab], .agg #[.int .i64 c0, .int .i64 c1, .int .i64 c2, .int .i64 c3, .int .i64 c4, .slice cA c5.length ca, .slice cB c6.length cb], .agg #[.int .i64 d0, .int .i64 d1, .int .i64 d2, .int .i64 d3, .int .i64 d4, .slice dA d5.length da, .slice dB d6.length db]] w fun e w' => e = .returned (.bool true) ∧ Below w.heap.size w w' := by
  have P1 := Aside0.mk p1
  have P2 := Aside0.mk p2
  have P3 := Aside0.mk p3
  have P4 := Aside0.mk p4
  clear p1 p2 p3 p4
  have HA3 := Aside0.mk ha3
  have HA4 := Aside0.mk ha4
  have HC5 := Aside0.mk hc5
  have HC6 := Aside0.mk hc6
  have HD5 := Aside0.mk hd5
  have HD6 := Aside0.mk hd6
  have HBX := Aside0.mk hbx
  clear ha3 ha4 hc5 hc6 hd5 hd6 hbx
  have HB := Aside0.mk (below_alloc (below_alloc (below_alloc (Below.refl w.heap.size w) (.cells #[.int .i64 a0, .int .i64 a1, .int .i64 a2, .slice aA a3.length aa, .slice aB a4.length ab] 25)) (.cells #[.int .i64 c0, .int .i64 c1, .int .i64 c2, .int .i64 c3, .int .i64 c4, .slice cA c5.length ca, .slice cB c6.length cb] 31)) (.cells #[.int .i64 d0, .int .i64 d1, .int .i64 d2, .int .i64 d3, .int .i64 d4, .slice dA d5.length da, .slice dB d6.length db] 31))
  have HA := Aside0.mk (blk_later (blk_later (blk_at (w := w) (.cells #[.int .i64 a0, .int .i64 a1, .int .i64 a2, .slice aA a3.length aa, .slice aB a4.length ab] 25)) (.cells #[.int .i64 c0, .int .i64 c1, .int .i64 c2, .int .i64 c3, .int .i64 c4, .slice cA c5.length ca, .slice cB c6.length cb] 31)) (.cells #[.int .i64 d0, .int .i64 d1, .int .i64 d2, .int .i64 d3, .int .i64 d4, .slice dA d5.length da, .slice dB d6.length db] 31))
  have HC := Aside0.mk (blk_later (blk_at1 (w := w) (.cells #[.int .i64 a0, .int .i64 a1, .int .i64 a2, .slice aA a3.length aa, .slice aB a4.length ab] 25) (.cells #[.int .i64 c0, .int .i64 c1, .int .i64 c2, .int .i64 c3, .int .i64 c4, .slice cA c5.length ca, .slice cB c6.length cb] 31)) (.cells #[.int .i64 d0, .int .i64 d1, .int .i64 d2, .int .i64 d3, .int .i64 d4, .slice dA d5.length da, .slice dB d6.length db] 31))
  have HD := Aside0.mk (blk_at2 (w := w) (.cells #[.int .i64 a0, .int .i64 a1, .int .i64 a2, .slice aA a3.length aa, .slice aB a4.length ab] 25) (.cells #[.int .i64 c0, .int .i64 c1, .int .i64 c2, .int .i64 c3, .int .i64 c4, .slice cA c5.length ca, .slice cB c6.length cb] 31) (.cells #[.int .i64 d0, .int .i64 d1, .int .i64 d2, .int .i64 d3, .int .i64 d4, .slice dA d5.length da, .slice dB d6.length db] 31))
  go_enter Tryd.func5, Tryd.ntmps5
  go_wp2_with fail
  refine (HBX.out _).mono ?_
  rintro e w1 ⟨rfl, hb⟩
  replace HA := Aside0.mk (blk_call HA.out hb)
  replace HC := Aside0.mk (blk_call HC.out hb)
  replace HD := Aside0.mk (blk_call HD.out hb)
  replace HB := Aside0.mk (below_step HB.out hb)
  clear hb
  have kHA := bc0 HA.out
  have fHA := bf0 HA.out
  have yHA := blk_lt HA.out
  have kHC := bc0 HC.out
  have fHC := bf0 HC.out
  have yHC := blk_lt HC.out
  have kHD := bc0 HD.out
  have fHD := bf0 HD.out
  have yHD := blk_lt HD.out
  go_wp2_with fail
  clear kHA fHA yHA kHC fHC yHC kHD fHD yHD
  refine (mailbox_Apply.calls k a0 a1 a2 aA aa a3 aB ab a4 c0 c1 c2 c3 c4 cA ca c5 cB cb c6 r0 r1 r2 r3 r4 r5 r6 _ (Kd.C_below HA3.out HB.out) ea3 (Kd.C_below HA4.out HB.out) ea4 (Kd.C_below HC5.out HB.out) ec5 (Kd.C_below HC6.out HB.out) ec6 P1.out).mono ?_
  rintro e x1 ⟨v3_, v4_, rfl, hv3_, hv4_, hb⟩
  obtain ⟨rA, ra, rfl⟩ := Kd.V_slice hv3_
  obtain ⟨rB, rb, rfl⟩ := Kd.V_slice hv4_
  have HrV := Aside0.mk hv3_
  have HrW := Aside0.mk hv4_
  clear hv3_ hv4_
  replace HA := Aside0.mk (blk_call HA.out hb)
  replace HC := Aside0.mk (blk_call HC.out hb)
  replace HD := Aside0.mk (blk_call HD.out hb)
  replace HB := Aside0.mk (below_step HB.out hb)
  clear hb
  have kHA := bc0 HA.out
  have fHA := bf0 HA.out
  have yHA := blk_lt HA.out
  have kHC := bc0 HC.out
  have fHC := bf0 HC.out
  have yHC := blk_lt HC.out
  have kHD := bc0 HD.out
  have fHD := bf0 HD.out
  have yHD := blk_lt HD.out
  go_wp2_with fail
  clear kHA fHA yHA kHC fHC yHC kHD fHD yHD
  have l1_t7 := blk_lt HA.out
  have l2_t7 := blk_lt HC.out
  have l3_t7 := blk_lt HD.out
  replace HA := Aside0.mk (blk_later HA.out (.cells #[.int .i64 r0, .int .i64 r1, .int .i64 r2, .slice rA r3.length ra, .slice rB r4.length rb] 25))
  replace HC := Aside0.mk (blk_later HC.out (.cells #[.int .i64 r0, .int .i64 r1, .int .i64 r2, .slice rA r3.length ra, .slice rB r4.length rb] 25))
  replace HD := Aside0.mk (blk_later HD.out (.cells #[.int .i64 r0, .int .i64 r1, .int .i64 r2, .slice rA r3.length ra, .slice rB r4.length rb] 25))
  replace HrV := Aside0.mk (Kd.V_alloc HrV.out (.cells #[.int .i64 r0, .int .i64 r1, .int .i64 r2, .slice rA r3.length ra, .slice rB r4.length rb] 25))
  replace HrW := Aside0.mk (Kd.V_alloc HrW.out (.cells #[.int .i64 r0, .int .i64 r1, .int .i64 r2, .slice rA r3.length ra, .slice rB r4.length rb] 25))
  replace HB := Aside0.mk (below_alloc HB.out (.cells #[.int .i64 r0, .int .i64 r1, .int .i64 r2, .slice rA r3.length ra, .slice rB r4.length rb] 25))
  have HM := Aside0.mk (blk_at (w := x1) (.cells #[.int .i64 r0, .int .i64 r1, .int .i64 r2, .slice rA r3.length ra, .slice rB r4.length rb] 25))
  have hs_t7 : (x1.alloc (.cells #[.int .i64 r0, .int .i64 r1, .int .i64 r2, .slice rA r3.length ra, .slice rB r4.length rb] 25)).heap.size = x1.heap.size + 1 := by simp
  generalize x1.alloc (.cells #[.int .i64 r0, .int .i64 r1, .int .i64 r2, .slice rA r3.length ra, .slice rB r4.length rb] 25) = X2 at *
  generalize x1.heap.size = t7 at *
  have l4_t71 := blk_lt HA.out
  have l5_t71 := blk_lt HC.out
  have l6_t71 := blk_lt HD.out
  have l7_t71 := blk_lt HM.out
  replace HA := Aside0.mk (blk_later HA.out (.cells #[.int .i64 r5, .int .i64 r6] 33))
  replace HC := Aside0.mk (blk_later HC.out (.cells #[.int .i64 r5, .int .i64 r6] 33))
  replace HD := Aside0.mk (blk_later HD.out (.cells #[.int .i64 r5, .int .i64 r6] 33))
  replace HM := Aside0.mk (blk_later HM.out (.cells #[.int .i64 r5, .int .i64 r6] 33))
  replace HrV := Aside0.mk (Kd.V_alloc HrV.out (.cells #[.int .i64 r5, .int .i64 r6] 33))
  replace HrW := Aside0.mk (Kd.V_alloc HrW.out (.cells #[.int .i64 r5, .int .i64 r6] 33))
  replace HB := Aside0.mk (below_alloc HB.out (.cells #[.int .i64 r5, .int .i64 r6] 33))
  have HE1 := Aside0.mk (blk_at (w := X2) (.cells #[.int .i64 r5, .int .i64 r6] 33))
  rw [hs_t7] at HE1 l4_t71 l5_t71 l6_t71 l7_t71
  clear hs_t7
  generalize X2.alloc (.cells #[.int .i64 r5, .int .i64 r6] 33) = X3 at *
  have l8_cs := blk_lt HA.out
  have l9_cs := blk_lt HC.out
  have l10_cs := blk_lt HD.out
  have l11_cs := blk_lt HM.out
  have l12_cs := blk_lt HE1.out
  refine (mailbox_Apply.calls k r0 r1 r2 rA ra r3 rB rb r4 d0 d1 d2 d3 d4 dA da d5 dB db d6 s0 s1 s2 s3 s4 s5 s6 _ (Kd.F_now (Kd.V_F HrV.out)) (Kd.V_at HrV.out).2.1 (Kd.F_now (Kd.V_F HrW.out)) (Kd.V_at HrW.out).2.1 (Kd.C_below HD5.out HB.out) ed5 (Kd.C_below HD6.out HB.out) ed6 P2.out).mono ?_
  rintro e x4 ⟨v3_, v4_, rfl, hv3_, hv4_, hb⟩
  obtain ⟨sA, sa, rfl⟩ := Kd.V_slice hv3_
  obtain ⟨sB, sb, rfl⟩ := Kd.V_slice hv4_
  have HsV := Aside0.mk hv3_
  have HsW := Aside0.mk hv4_
  clear hv3_ hv4_
  have hz_s := below_size hb
  replace HA := Aside0.mk (blk_call HA.out hb)
  replace HC := Aside0.mk (blk_call HC.out hb)
  replace HD := Aside0.mk (blk_call HD.out hb)
  replace HM := Aside0.mk (blk_call HM.out hb)
  replace HE1 := Aside0.mk (blk_call HE1.out hb)
  replace HrV := Aside0.mk (Kd.V_below HrV.out hb)
  replace HrW := Aside0.mk (Kd.V_below HrW.out hb)
  replace HB := Aside0.mk (below_step HB.out hb)
  clear hb
  clear HrV HrW
  have kHM := bc0 HM.out
  have fHM := bf0 HM.out
  have yHM := blk_lt HM.out
  have kHA := bc0 HA.out
  have fHA := bf0 HA.out
  have yHA := blk_lt HA.out
  have kHD := bc0 HD.out
  have fHD := bf0 HD.out
  have yHD := blk_lt HD.out
  go_wp2_with fail
  clear kHM fHM yHM kHA fHA yHA kHD fHD yHD
  replace HA := Aside0.mk (blk_far (p := ⟨t7, 4, none⟩) (blk_far (p := ⟨t7, 3, none⟩) (blk_far (p := ⟨t7, 2, none⟩) (blk_far (p := ⟨t7, 1, none⟩) (blk_far (p := ⟨t7, 0, none⟩) HA.out (show w.heap.size ≠ t7 by omega) (.int .i64 s0)) (show w.heap.size ≠ t7 by omega) (.int .i64 s1)) (show w.heap.size ≠ t7 by omega) (.int .i64 s2)) (show w.heap.size ≠ t7 by omega) (.slice sA s3.length sa)) (show w.heap.size ≠ t7 by omega) (.slice sB s4.length sb))
  replace HC := Aside0.mk (blk_far (p := ⟨t7, 4, none⟩) (blk_far (p := ⟨t7, 3, none⟩) (blk_far (p := ⟨t7, 2, none⟩) (blk_far (p := ⟨t7, 1, none⟩) (blk_far (p := ⟨t7, 0, none⟩) HC.out (show w.heap.size + 1 ≠ t7 by omega) (.int .i64 s0)) (show w.heap.size + 1 ≠ t7 by omega) (.int .i64 s1)) (show w.heap.size + 1 ≠ t7 by omega) (.int .i64 s2)) (show w.heap.size + 1 ≠ t7 by omega) (.slice sA s3.length sa)) (show w.heap.size + 1 ≠ t7 by omega) (.slice sB s4.length sb))
  replace HD := Aside0.mk (blk_far (p := ⟨t7, 4, none⟩) (blk_far (p := ⟨t7, 3, none⟩) (blk_far (p := ⟨t7, 2, none⟩) (blk_far (p := ⟨t7, 1, none⟩) (blk_far (p := ⟨t7, 0, none⟩) HD.out (show w.heap.size + 1 + 1 ≠ t7 by omega) (.int .i64 s0)) (show w.heap.size + 1 + 1 ≠ t7 by omega) (.int .i64 s1)) (show w.heap.size + 1 + 1 ≠ t7 by omega) (.int .i64 s2)) (show w.heap.size + 1 + 1 ≠ t7 by omega) (.slice sA s3.length sa)) (show w.heap.size + 1 + 1 ≠ t7 by omega) (.slice sB s4.length sb))
  replace HM : Aside0 (((((((x4).setCell ⟨t7, 0, none⟩ (.int .i64 s0)).setCell ⟨t7, 1, none⟩ (.int .i64 s1)).setCell ⟨t7, 2, none⟩ (.int .i64 s2)).setCell ⟨t7, 3, none⟩ (.slice sA s3.length sa)).setCell ⟨t7, 4, none⟩ (.slice sB s4.length sb)).heap[t7]? = some (.cells #[(.int .i64 s0), (.int .i64 s1), (.int .i64 s2), (.slice sA s3.length sa), (.slice sB s4.length sb)] 25 (0, 0))) := Aside0.mk (blk_put (blk_put (blk_put (blk_put (blk_put HM.out 0 (.int .i64 s0) rfl) 1 (.int .i64 s1) rfl) 2 (.int .i64 s2) rfl) 3 (.slice sA s3.length sa) rfl) 4 (.slice sB s4.length sb) rfl)
  replace HE1 := Aside0.mk (blk_far (p := ⟨t7, 4, none⟩) (blk_far (p := ⟨t7, 3, none⟩) (blk_far (p := ⟨t7, 2, none⟩) (blk_far (p := ⟨t7, 1, none⟩) (blk_far (p := ⟨t7, 0, none⟩) HE1.out (show t7 + 1 ≠ t7 by omega) (.int .i64 s0)) (show t7 + 1 ≠ t7 by omega) (.int .i64 s1)) (show t7 + 1 ≠ t7 by omega) (.int .i64 s2)) (show t7 + 1 ≠ t7 by omega) (.slice sA s3.length sa)) (show t7 + 1 ≠ t7 by omega) (.slice sB s4.length sb))
  replace HsV := Aside0.mk (Kd.V_far (p := ⟨t7, 4, none⟩) (Kd.V_far (p := ⟨t7, 3, none⟩) (Kd.V_far (p := ⟨t7, 2, none⟩) (Kd.V_far (p := ⟨t7, 1, none⟩) (Kd.V_far (p := ⟨t7, 0, none⟩) HsV.out (fun k_ (hk_ : X3.heap.size ≤ k_) => by show k_ ≠ t7; omega) (.int .i64 s0)) (fun k_ (hk_ : X3.heap.size ≤ k_) => by show k_ ≠ t7; omega) (.int .i64 s1)) (fun k_ (hk_ : X3.heap.size ≤ k_) => by show k_ ≠ t7; omega) (.int .i64 s2)) (fun k_ (hk_ : X3.heap.size ≤ k_) => by show k_ ≠ t7; omega) (.slice sA s3.length sa)) (fun k_ (hk_ : X3.heap.size ≤ k_) => by show k_ ≠ t7; omega) (.slice sB s4.length sb))
  replace HsW := Aside0.mk (Kd.V_far (p := ⟨t7, 4, none⟩) (Kd.V_far (p := ⟨t7, 3, none⟩) (Kd.V_far (p := ⟨t7, 2, none⟩) (Kd.V_far (p := ⟨t7, 1, none⟩) (Kd.V_far (p := ⟨t7, 0, none⟩) HsW.out (fun k_ (hk_ : X3.heap.size ≤ k_) => by show k_ ≠ t7; omega) (.int .i64 s0)) (fun k_ (hk_ : X3.heap.size ≤ k_) => by show k_ ≠ t7; omega) (.int .i64 s1)) (fun k_ (hk_ : X3.heap.size ≤ k_) => by show k_ ≠ t7; omega) (.int .i64 s2)) (fun k_ (hk_ : X3.heap.size ≤ k_) => by show k_ ≠ t7; omega) (.slice sA s3.length sa)) (fun k_ (hk_ : X3.heap.size ≤ k_) => by show k_ ≠ t7; omega) (.slice sB s4.length sb))
  replace HB := Aside0.mk (below_set (j := 4) (v := (.slice sB s4.length sb)) (below_set (j := 3) (v := (.slice sA s3.length sa)) (below_set (j := 2) (v := (.int .i64 s2)) (below_set (j := 1) (v := (.int .i64 s1)) (below_set (j := 0) (v := (.int .i64 s0)) HB.out (show w.heap.size ≤ t7 by omega)) (show w.heap.size ≤ t7 by omega)) (show w.heap.size ≤ t7 by omega)) (show w.heap.size ≤ t7 by omega)) (show w.heap.size ≤ t7 by omega))
  have hp_s : ((((((x4).setCell ⟨t7, 0, none⟩ (.int .i64 s0)).setCell ⟨t7, 1, none⟩ (.int .i64 s1)).setCell ⟨t7, 2, none⟩ (.int .i64 s2)).setCell ⟨t7, 3, none⟩ (.slice sA s3.length sa)).setCell ⟨t7, 4, none⟩ (.slice sB s4.length sb)).heap.size = x4.heap.size := by simp
  generalize (((((x4).setCell ⟨t7, 0, none⟩ (.int .i64 s0)).setCell ⟨t7, 1, none⟩ (.int .i64 s1)).setCell ⟨t7, 2, none⟩ (.int .i64 s2)).setCell ⟨t7, 3, none⟩ (.slice sA s3.length sa)).setCell ⟨t7, 4, none⟩ (.slice sB s4.length sb) = X5 at *
  have l13_t9 := blk_lt HA.out
  have l14_t9 := blk_lt HC.out
  have l15_t9 := blk_lt HD.out
  have l16_t9 := blk_lt HM.out
  have l17_t9 := blk_lt HE1.out
  replace HA := Aside0.mk (blk_later HA.out (.cells #[.int .i64 s5, .int .i64 s6] 33))
  replace HC := Aside0.mk (blk_later HC.out (.cells #[.int .i64 s5, .int .i64 s6] 33))
  replace HD := Aside0.mk (blk_later HD.out (.cells #[.int .i64 s5, .int .i64 s6] 33))
  replace HM := Aside0.mk (blk_later HM.out (.cells #[.int .i64 s5, .int .i64 s6] 33))
  replace HE1 := Aside0.mk (blk_later HE1.out (.cells #[.int .i64 s5, .int .i64 s6] 33))
  replace HsV := Aside0.mk (Kd.V_alloc HsV.out (.cells #[.int .i64 s5, .int .i64 s6] 33))
  replace HsW := Aside0.mk (Kd.V_alloc HsW.out (.cells #[.int .i64 s5, .int .i64 s6] 33))
  replace HB := Aside0.mk (below_alloc HB.out (.cells #[.int .i64 s5, .int .i64 s6] 33))
  have HE2 := Aside0.mk (blk_at (w := X5) (.cells #[.int .i64 s5, .int .i64 s6] 33))
  rw [hp_s] at HE2 l13_t9 l14_t9 l15_t9 l16_t9 l17_t9
  clear hp_s
  generalize X5.alloc (.cells #[.int .i64 s5, .int .i64 s6] 33) = X6 at *
  generalize x4.heap.size = t9 at *
  have l18_cu := blk_lt HA.out
  have l19_cu := blk_lt HC.out
  have l20_cu := blk_lt HD.out
  have l21_cu := blk_lt HM.out
  have l22_cu := blk_lt HE1.out
  have l23_cu := blk_lt HE2.out
  refine (mailbox_Apply.calls k a0 a1 a2 aA aa a3 aB ab a4 d0 d1 d2 d3 d4 dA da d5 dB db d6 u0 u1 u2 u3 u4 u5 u6 _ (Kd.C_below HA3.out HB.out) ea3 (Kd.C_below HA4.out HB.out) ea4 (Kd.C_below HD5.out HB.out) ed5 (Kd.C_below HD6.out HB.out) ed6 P3.out).mono ?_
  rintro e x7 ⟨v3_, v4_, rfl, hv3_, hv4_, hb⟩
  obtain ⟨uA, ua, rfl⟩ := Kd.V_slice hv3_
  obtain ⟨uB, ub, rfl⟩ := Kd.V_slice hv4_
  have HuV := Aside0.mk hv3_
  have HuW := Aside0.mk hv4_
  clear hv3_ hv4_
  have hz_u := below_size hb
  replace HA := Aside0.mk (blk_call HA.out hb)
  replace HC := Aside0.mk (blk_call HC.out hb)
  replace HD := Aside0.mk (blk_call HD.out hb)
  replace HM := Aside0.mk (blk_call HM.out hb)
  replace HE1 := Aside0.mk (blk_call HE1.out hb)
  replace HE2 := Aside0.mk (blk_call HE2.out hb)
  replace HsV := Aside0.mk (Kd.V_below HsV.out hb)
  replace HsW := Aside0.mk (Kd.V_below HsW.out hb)
  replace HB := Aside0.mk (below_step HB.out hb)
  clear hb
  have kHA := bc0 HA.out
  have fHA := bf0 HA.out
  have yHA := blk_lt HA.out
  have kHC := bc0 HC.out
  have fHC := bf0 HC.out
  have yHC := blk_lt HC.out
  have kHD := bc0 HD.out
  have fHD := bf0 HD.out
  have yHD := blk_lt HD.out
  go_wp2_with fail
  clear kHA fHA yHA kHC fHC yHC kHD fHD yHD
  have l24_t10 := blk_lt HA.out
  have l25_t10 := blk_lt HC.out
  have l26_t10 := blk_lt HD.out
  have l27_t10 := blk_lt HM.out
  have l28_t10 := blk_lt HE1.out
  have l29_t10 := blk_lt HE2.out
  replace HsV := Aside0.mk (Kd.V_mono (ok' := fun k_ => X3.heap.size ≤ k_ ∧ k_ ≠ x7.heap.size) (Kd.V_elderB HsV.out x7.heap.size (Nat.le_refl _)) (fun k_ hk_ => by have h1_ := hk_.1; have h2_ := hk_.2; omega))
  replace HsW := Aside0.mk (Kd.V_mono (ok' := fun k_ => X3.heap.size ≤ k_ ∧ k_ ≠ x7.heap.size) (Kd.V_elderB HsW.out x7.heap.size (Nat.le_refl _)) (fun k_ hk_ => by have h1_ := hk_.1; have h2_ := hk_.2; omega))
  replace HuV := Aside0.mk (Kd.V_mono (ok' := fun k_ => X6.heap.size ≤ k_ ∧ k_ ≠ x7.heap.size) (Kd.V_elderB HuV.out x7.heap.size (Nat.le_refl _)) (fun k_ hk_ => by have h1_ := hk_.1; have h2_ := hk_.2; omega))
  replace HuW := Aside0.mk (Kd.V_mono (ok' := fun k_ => X6.heap.size ≤ k_ ∧ k_ ≠ x7.heap.size) (Kd.V_elderB HuW.out x7.heap.size (Nat.le_refl _)) (fun k_ hk_ => by have h1_ := hk_.1; have h2_ := hk_.2; omega))
  replace HA := Aside0.mk (blk_later HA.out (.cells #[.int .i64 u0, .int .i64 u1, .int .i64 u2, .slice uA u3.length ua, .slice uB u4.length ub] 25))
  replace HC := Aside0.mk (blk_later HC.out (.cells #[.int .i64 u0, .int .i64 u1, .int .i64 u2, .slice uA u3.length ua, .slice uB u4.length ub] 25))
  replace HD := Aside0.mk (blk_later HD.out (.cells #[.int .i64 u0, .int .i64 u1, .int .i64 u2, .slice uA u3.length ua, .slice uB u4.length ub] 25))
  replace HM := Aside0.mk (blk_later HM.out (.cells #[.int .i64 u0, .int .i64 u1, .int .i64 u2, .slice uA u3.length ua, .slice uB u4.length ub] 25))
  replace HE1 := Aside0.mk (blk_later HE1.out (.cells #[.int .i64 u0, .int .i64 u1, .int .i64 u2, .slice uA u3.length ua, .slice uB u4.length ub] 25))
  replace HE2 := Aside0.mk (blk_later HE2.out (.cells #[.int .i64 u0, .int .i64 u1, .int .i64 u2, .slice uA u3.length ua, .slice uB u4.length ub] 25))
  replace HsV := Aside0.mk (Kd.V_alloc HsV.out (.cells #[.int .i64 u0, .int .i64 u1, .int .i64 u2, .slice uA u3.length ua, .slice uB u4.length ub] 25))
  replace HsW := Aside0.mk (Kd.V_alloc HsW.out (.cells #[.int .i64 u0, .int .i64 u1, .int .i64 u2, .slice uA u3.length ua, .slice uB u4.length ub] 25))
  replace HuV := Aside0.mk (Kd.V_alloc HuV.out (.cells #[.int .i64 u0, .int .i64 u1, .int .i64 u2, .slice uA u3.length ua, .slice uB u4.length ub] 25))
  replace HuW := Aside0.mk (Kd.V_alloc HuW.out (.cells #[.int .i64 u0, .int .i64 u1, .int .i64 u2, .slice uA u3.length ua, .slice uB u4.length ub] 25))
  replace HB := Aside0.mk (below_alloc HB.out (.cells #[.int .i64 u0, .int .i64 u1, .int .i64 u2, .slice uA u3.length ua, .slice uB u4.length ub] 25))
  have HN := Aside0.mk (blk_at (w := x7) (.cells #[.int .i64 u0, .int .i64 u1, .int .i64 u2, .slice uA u3.length ua, .slice uB u4.length ub] 25))
  have hs_t10 : (x7.alloc (.cells #[.int .i64 u0, .int .i64 u1, .int .i64 u2, .slice uA u3.length ua, .slice uB u4.length ub] 25)).heap.size = x7.heap.size + 1 := by simp
  generalize x7.alloc (.cells #[.int .i64 u0, .int .i64 u1, .int .i64 u2, .slice uA u3.length ua, .slice uB u4.length ub] 25) = X8 at *
  generalize x7.heap.size = t10 at *
  have l30_t101 := blk_lt HA.out
  have l31_t101 := blk_lt HC.out
  have l32_t101 := blk_lt HD.out
  have l33_t101 := blk_lt HM.out
  have l34_t101 := blk_lt HE1.out
  have l35_t101 := blk_lt HE2.out
  have l36_t101 := blk_lt HN.out
  replace HA := Aside0.mk (blk_later HA.out (.cells #[.int .i64 u5, .int .i64 u6] 33))
  replace HC := Aside0.mk (blk_later HC.out (.cells #[.int .i64 u5, .int .i64 u6] 33))
  replace HD := Aside0.mk (blk_later HD.out (.cells #[.int .i64 u5, .int .i64 u6] 33))
  replace HM := Aside0.mk (blk_later HM.out (.cells #[.int .i64 u5, .int .i64 u6] 33))
  replace HE1 := Aside0.mk (blk_later HE1.out (.cells #[.int .i64 u5, .int .i64 u6] 33))
  replace HE2 := Aside0.mk (blk_later HE2.out (.cells #[.int .i64 u5, .int .i64 u6] 33))
  replace HN := Aside0.mk (blk_later HN.out (.cells #[.int .i64 u5, .int .i64 u6] 33))
  replace HsV := Aside0.mk (Kd.V_alloc HsV.out (.cells #[.int .i64 u5, .int .i64 u6] 33))
  replace HsW := Aside0.mk (Kd.V_alloc HsW.out (.cells #[.int .i64 u5, .int .i64 u6] 33))
  replace HuV := Aside0.mk (Kd.V_alloc HuV.out (.cells #[.int .i64 u5, .int .i64 u6] 33))
  replace HuW := Aside0.mk (Kd.V_alloc HuW.out (.cells #[.int .i64 u5, .int .i64 u6] 33))
  replace HB := Aside0.mk (below_alloc HB.out (.cells #[.int .i64 u5, .int .i64 u6] 33))
  have HE3 := Aside0.mk (blk_at (w := X8) (.cells #[.int .i64 u5, .int .i64 u6] 33))
  rw [hs_t10] at HE3 l30_t101 l31_t101 l32_t101 l33_t101 l34_t101 l35_t101 l36_t101
  clear hs_t10
  generalize X8.alloc (.cells #[.int .i64 u5, .int .i64 u6] 33) = X9 at *
  have l37_cv := blk_lt HA.out
  have l38_cv := blk_lt HC.out
  have l39_cv := blk_lt HD.out
  have l40_cv := blk_lt HM.out
  have l41_cv := blk_lt HE1.out
  have l42_cv := blk_lt HE2.out
  have l43_cv := blk_lt HN.out
  have l44_cv := blk_lt HE3.out
  refine (mailbox_Apply.calls k u0 u1 u2 uA ua u3 uB ub u4 c0 c1 c2 c3 c4 cA ca c5 cB cb c6 v0 v1 v2 v3 v4 v5 v6 _ (Kd.F_now (Kd.V_F HuV.out)) (Kd.V_at HuV.out).2.1 (Kd.F_now (Kd.V_F HuW.out)) (Kd.V_at HuW.out).2.1 (Kd.C_below HC5.out HB.out) ec5 (Kd.C_below HC6.out HB.out) ec6 P4.out).mono ?_
  rintro e x10 ⟨v3_, v4_, rfl, hv3_, hv4_, hb⟩
  obtain ⟨vA, va, rfl⟩ := Kd.V_slice hv3_
  obtain ⟨vB, vb, rfl⟩ := Kd.V_slice hv4_
  have HvV := Aside0.mk hv3_
  have HvW := Aside0.mk hv4_
  clear hv3_ hv4_
  have hz_v := below_size hb
  replace HA := Aside0.mk (blk_call HA.out hb)
  replace HC := Aside0.mk (blk_call HC.out hb)
  replace HD := Aside0.mk (blk_call HD.out hb)
  replace HM := Aside0.mk (blk_call HM.out hb)
  replace HE1 := Aside0.mk (blk_call HE1.out hb)
  replace HE2 := Aside0.mk (blk_call HE2.out hb)
  replace HN := Aside0.mk (blk_call HN.out hb)
  replace HE3 := Aside0.mk (blk_call HE3.out hb)
  replace HsV := Aside0.mk (Kd.V_below HsV.out hb)
  replace HsW := Aside0.mk (Kd.V_below HsW.out hb)
  replace HuV := Aside0.mk (Kd.V_below HuV.out hb)
  replace HuW := Aside0.mk (Kd.V_below HuW.out hb)
  replace HB := Aside0.mk (below_step HB.out hb)
  clear hb
  clear HuV HuW
  have kHN := bc0 HN.out
  have fHN := bf0 HN.out
  have yHN := blk_lt HN.out
  have kHE1 := bc0 HE1.out
  have fHE1 := bf0 HE1.out
  have yHE1 := blk_lt HE1.out
  have kHE2 := bc0 HE2.out
  have fHE2 := bf0 HE2.out
  have yHE2 := blk_lt HE2.out
  have kHE3 := bc0 HE3.out
  have fHE3 := bf0 HE3.out
  have yHE3 := blk_lt HE3.out
  go_wp2
  clear kHN fHN yHN kHE1 fHE1 yHE1 kHE2 fHE2 yHE2 kHE3 fHE3 yHE3
  replace HA := Aside0.mk (blk_far (p := ⟨t10, 4, none⟩) (blk_far (p := ⟨t10, 3, none⟩) (blk_far (p := ⟨t10, 2, none⟩) (blk_far (p := ⟨t10, 1, none⟩) (blk_far (p := ⟨t10, 0, none⟩) HA.out (show w.heap.size ≠ t10 by omega) (.int .i64 v0)) (show w.heap.size ≠ t10 by omega) (.int .i64 v1)) (show w.heap.size ≠ t10 by omega) (.int .i64 v2)) (show w.heap.size ≠ t10 by omega) (.slice vA v3.length va)) (show w.heap.size ≠ t10 by omega) (.slice vB v4.length vb))
  replace HC := Aside0.mk (blk_far (p := ⟨t10, 4, none⟩) (blk_far (p := ⟨t10, 3, none⟩) (blk_far (p := ⟨t10, 2, none⟩) (blk_far (p := ⟨t10, 1, none⟩) (blk_far (p := ⟨t10, 0, none⟩) HC.out (show w.heap.size + 1 ≠ t10 by omega) (.int .i64 v0)) (show w.heap.size + 1 ≠ t10 by omega) (.int .i64 v1)) (show w.heap.size + 1 ≠ t10 by omega) (.int .i64 v2)) (show w.heap.size + 1 ≠ t10 by omega) (.slice vA v3.length va)) (show w.heap.size + 1 ≠ t10 by omega) (.slice vB v4.length vb))
  replace HD := Aside0.mk (blk_far (p := ⟨t10, 4, none⟩) (blk_far (p := ⟨t10, 3, none⟩) (blk_far (p := ⟨t10, 2, none⟩) (blk_far (p := ⟨t10, 1, none⟩) (blk_far (p := ⟨t10, 0, none⟩) HD.out (show w.heap.size + 1 + 1 ≠ t10 by omega) (.int .i64 v0)) (show w.heap.size + 1 + 1 ≠ t10 by omega) (.int .i64 v1)) (show w.heap.size + 1 + 1 ≠ t10 by omega) (.int .i64 v2)) (show w.heap.size + 1 + 1 ≠ t10 by omega) (.slice vA v3.length va)) (show w.heap.size + 1 + 1 ≠ t10 by omega) (.slice vB v4.length vb))
  replace HM := Aside0.mk (blk_far (p := ⟨t10, 4, none⟩) (blk_far (p := ⟨t10, 3, none⟩) (blk_far (p := ⟨t10, 2, none⟩) (blk_far (p := ⟨t10, 1, none⟩) (blk_far (p := ⟨t10, 0, none⟩) HM.out (show t7 ≠ t10 by omega) (.int .i64 v0)) (show t7 ≠ t10 by omega) (.int .i64 v1)) (show t7 ≠ t10 by omega) (.int .i64 v2)) (show t7 ≠ t10 by omega) (.slice vA v3.length va)) (show t7 ≠ t10 by omega) (.slice vB v4.length vb))
  replace HE1 := Aside0.mk (blk_far (p := ⟨t10, 4, none⟩) (blk_far (p := ⟨t10, 3, none⟩) (blk_far (p := ⟨t10, 2, none⟩) (blk_far (p := ⟨t10, 1, none⟩) (blk_far (p := ⟨t10, 0, none⟩) HE1.out (show t7 + 1 ≠ t10 by omega) (.int .i64 v0)) (show t7 + 1 ≠ t10 by omega) (.int .i64 v1)) (show t7 + 1 ≠ t10 by omega) (.int .i64 v2)) (show t7 + 1 ≠ t10 by omega) (.slice vA v3.length va)) (show t7 + 1 ≠ t10 by omega) (.slice vB v4.length vb))
  replace HE2 := Aside0.mk (blk_far (p := ⟨t10, 4, none⟩) (blk_far (p := ⟨t10, 3, none⟩) (blk_far (p := ⟨t10, 2, none⟩) (blk_far (p := ⟨t10, 1, none⟩) (blk_far (p := ⟨t10, 0, none⟩) HE2.out (show t9 ≠ t10 by omega) (.int .i64 v0)) (show t9 ≠ t10 by omega) (.int .i64 v1)) (show t9 ≠ t10 by omega) (.int .i64 v2)) (show t9 ≠ t10 by omega) (.slice vA v3.length va)) (show t9 ≠ t10 by omega) (.slice vB v4.length vb))
  replace HN : Aside0 (((((((x10).setCell ⟨t10, 0, none⟩ (.int .i64 v0)).setCell ⟨t10, 1, none⟩ (.int .i64 v1)).setCell ⟨t10, 2, none⟩ (.int .i64 v2)).setCell ⟨t10, 3, none⟩ (.slice vA v3.length va)).setCell ⟨t10, 4, none⟩ (.slice vB v4.length vb)).heap[t10]? = some (.cells #[(.int .i64 v0), (.int .i64 v1), (.int .i64 v2), (.slice vA v3.length va), (.slice vB v4.length vb)] 25 (0, 0))) := Aside0.mk (blk_put (blk_put (blk_put (blk_put (blk_put HN.out 0 (.int .i64 v0) rfl) 1 (.int .i64 v1) rfl) 2 (.int .i64 v2) rfl) 3 (.slice vA v3.length va) rfl) 4 (.slice vB v4.length vb) rfl)
  replace HE3 := Aside0.mk (blk_far (p := ⟨t10, 4, none⟩) (blk_far (p := ⟨t10, 3, none⟩) (blk_far (p := ⟨t10, 2, none⟩) (blk_far (p := ⟨t10, 1, none⟩) (blk_far (p := ⟨t10, 0, none⟩) HE3.out (show t10 + 1 ≠ t10 by omega) (.int .i64 v0)) (show t10 + 1 ≠ t10 by omega) (.int .i64 v1)) (show t10 + 1 ≠ t10 by omega) (.int .i64 v2)) (show t10 + 1 ≠ t10 by omega) (.slice vA v3.length va)) (show t10 + 1 ≠ t10 by omega) (.slice vB v4.length vb))
  replace HsV := Aside0.mk (Kd.V_far (p := ⟨t10, 4, none⟩) (Kd.V_far (p := ⟨t10, 3, none⟩) (Kd.V_far (p := ⟨t10, 2, none⟩) (Kd.V_far (p := ⟨t10, 1, none⟩) (Kd.V_far (p := ⟨t10, 0, none⟩) HsV.out (fun k_ (hk_ : X3.heap.size ≤ k_ ∧ k_ ≠ t10) => by show k_ ≠ t10; omega) (.int .i64 v0)) (fun k_ (hk_ : X3.heap.size ≤ k_ ∧ k_ ≠ t10) => by show k_ ≠ t10; omega) (.int .i64 v1)) (fun k_ (hk_ : X3.heap.size ≤ k_ ∧ k_ ≠ t10) => by show k_ ≠ t10; omega) (.int .i64 v2)) (fun k_ (hk_ : X3.heap.size ≤ k_ ∧ k_ ≠ t10) => by show k_ ≠ t10; omega) (.slice vA v3.length va)) (fun k_ (hk_ : X3.heap.size ≤ k_ ∧ k_ ≠ t10) => by show k_ ≠ t10; omega) (.slice vB v4.length vb))
  replace HsW := Aside0.mk (Kd.V_far (p := ⟨t10, 4, none⟩) (Kd.V_far (p := ⟨t10, 3, none⟩) (Kd.V_far (p := ⟨t10, 2, none⟩) (Kd.V_far (p := ⟨t10, 1, none⟩) (Kd.V_far (p := ⟨t10, 0, none⟩) HsW.out (fun k_ (hk_ : X3.heap.size ≤ k_ ∧ k_ ≠ t10) => by show k_ ≠ t10; omega) (.int .i64 v0)) (fun k_ (hk_ : X3.heap.size ≤ k_ ∧ k_ ≠ t10) => by show k_ ≠ t10; omega) (.int .i64 v1)) (fun k_ (hk_ : X3.heap.size ≤ k_ ∧ k_ ≠ t10) => by show k_ ≠ t10; omega) (.int .i64 v2)) (fun k_ (hk_ : X3.heap.size ≤ k_ ∧ k_ ≠ t10) => by show k_ ≠ t10; omega) (.slice vA v3.length va)) (fun k_ (hk_ : X3.heap.size ≤ k_ ∧ k_ ≠ t10) => by show k_ ≠ t10; omega) (.slice vB v4.length vb))
  replace HvV := Aside0.mk (Kd.V_far (p := ⟨t10, 4, none⟩) (Kd.V_far (p := ⟨t10, 3, none⟩) (Kd.V_far (p := ⟨t10, 2, none⟩) (Kd.V_far (p := ⟨t10, 1, none⟩) (Kd.V_far (p := ⟨t10, 0, none⟩) HvV.out (fun k_ (hk_ : X9.heap.size ≤ k_) => by show k_ ≠ t10; omega) (.int .i64 v0)) (fun k_ (hk_ : X9.heap.size ≤ k_) => by show k_ ≠ t10; omega) (.int .i64 v1)) (fun k_ (hk_ : X9.heap.size ≤ k_) => by show k_ ≠ t10; omega) (.int .i64 v2)) (fun k_ (hk_ : X9.heap.size ≤ k_) => by show k_ ≠ t10; omega) (.slice vA v3.length va)) (fun k_ (hk_ : X9.heap.size ≤ k_) => by show k_ ≠ t10; omega) (.slice vB v4.length vb))
  replace HvW := Aside0.mk (Kd.V_far (p := ⟨t10, 4, none⟩) (Kd.V_far (p := ⟨t10, 3, none⟩) (Kd.V_far (p := ⟨t10, 2, none⟩) (Kd.V_far (p := ⟨t10, 1, none⟩) (Kd.V_far (p := ⟨t10, 0, none⟩) HvW.out (fun k_ (hk_ : X9.heap.size ≤ k_) => by show k_ ≠ t10; omega) (.int .i64 v0)) (fun k_ (hk_ : X9.heap.size ≤ k_) => by show k_ ≠ t10; omega) (.int .i64 v1)) (fun k_ (hk_ : X9.heap.size ≤ k_) => by show k_ ≠ t10; omega) (.int .i64 v2)) (fun k_ (hk_ : X9.heap.size ≤ k_) => by show k_ ≠ t10; omega) (.slice vA v3.length va)) (fun k_ (hk_ : X9.heap.size ≤ k_) => by show k_ ≠ t10; omega) (.slice vB v4.length vb))
  replace HB := Aside0.mk (below_set (j := 4) (v := (.slice vB v4.length vb)) (below_set (j := 3) (v := (.slice vA v3.length va)) (below_set (j := 2) (v := (.int .i64 v2)) (below_set (j := 1) (v := (.int .i64 v1)) (below_set (j := 0) (v := (.int .i64 v0)) HB.out (show w.heap.size ≤ t10 by omega)) (show w.heap.size ≤ t10 by omega)) (show w.heap.size ≤ t10 by omega)) (show w.heap.size ≤ t10 by omega)) (show w.heap.size ≤ t10 by omega))
  have hp_v : ((((((x10).setCell ⟨t10, 0, none⟩ (.int .i64 v0)).setCell ⟨t10, 1, none⟩ (.int .i64 v1)).setCell ⟨t10, 2, none⟩ (.int .i64 v2)).setCell ⟨t10, 3, none⟩ (.slice vA v3.length va)).setCell ⟨t10, 4, none⟩ (.slice vB v4.length vb)).heap.size = x10.heap.size := by simp
  generalize (((((x10).setCell ⟨t10, 0, none⟩ (.int .i64 v0)).setCell ⟨t10, 1, none⟩ (.int .i64 v1)).setCell ⟨t10, 2, none⟩ (.int .i64 v2)).setCell ⟨t10, 3, none⟩ (.slice vA v3.length va)).setCell ⟨t10, 4, none⟩ (.slice vB v4.length vb) = X11 at *
  have l45_t12 := blk_lt HA.out
  have l46_t12 := blk_lt HC.out
  have l47_t12 := blk_lt HD.out
  have l48_t12 := blk_lt HM.out
  have l49_t12 := blk_lt HE1.out
  have l50_t12 := blk_lt HE2.out
  have l51_t12 := blk_lt HN.out
  have l52_t12 := blk_lt HE3.out
  replace HA := Aside0.mk (blk_later HA.out (.cells #[.int .i64 v5, .int .i64 v6] 33))
  replace HC := Aside0.mk (blk_later HC.out (.cells #[.int .i64 v5, .int .i64 v6] 33))
  replace HD := Aside0.mk (blk_later HD.out (.cells #[.int .i64 v5, .int .i64 v6] 33))
  replace HM := Aside0.mk (blk_later HM.out (.cells #[.int .i64 v5, .int .i64 v6] 33))
  replace HE1 := Aside0.mk (blk_later HE1.out (.cells #[.int .i64 v5, .int .i64 v6] 33))
  replace HE2 := Aside0.mk (blk_later HE2.out (.cells #[.int .i64 v5, .int .i64 v6] 33))
  replace HN := Aside0.mk (blk_later HN.out (.cells #[.int .i64 v5, .int .i64 v6] 33))
  replace HE3 := Aside0.mk (blk_later HE3.out (.cells #[.int .i64 v5, .int .i64 v6] 33))
  replace HsV := Aside0.mk (Kd.V_alloc HsV.out (.cells #[.int .i64 v5, .int .i64 v6] 33))
  replace HsW := Aside0.mk (Kd.V_alloc HsW.out (.cells #[.int .i64 v5, .int .i64 v6] 33))
  replace HvV := Aside0.mk (Kd.V_alloc HvV.out (.cells #[.int .i64 v5, .int .i64 v6] 33))
  replace HvW := Aside0.mk (Kd.V_alloc HvW.out (.cells #[.int .i64 v5, .int .i64 v6] 33))
  replace HB := Aside0.mk (below_alloc HB.out (.cells #[.int .i64 v5, .int .i64 v6] 33))
  have HE4 := Aside0.mk (blk_at (w := X11) (.cells #[.int .i64 v5, .int .i64 v6] 33))
  rw [hp_v] at HE4 l45_t12 l46_t12 l47_t12 l48_t12 l49_t12 l50_t12 l51_t12 l52_t12
  clear hp_v
  generalize X11.alloc (.cells #[.int .i64 v5, .int .i64 v6] 33) = X12 at *
  generalize x10.heap.size = t12 at *
  go_ret
  exact ⟨rfl, HB.out⟩

set_option maxHeartbeats 8000000 in
set_option maxRecDepth 100000 in
theorem FlagsCommute_e4 (k : Nat) (a0 a1 a2 : Int) (aA : Option Addr) (aa : Nat) (a3 : List (S58)) (aB : Option Addr) (ab : Nat) (a4 : List (S61)) (c0 c1 c2 c3 c4 : Int) (cA : Option Addr) (ca : Nat) (c5 : List (S77)) (cB : Option Addr) (cb : Nat) (c6 : List Int) (d0 d1 d2 d3 d4 : Int) (dA : Option Addr) (da : Nat) (d5 : List (S77)) (dB : Option Addr) (db : Nat) (d6 : List Int) (w : World) (ha3 : Kd.C k58 w aA a3.length a3) (ea3 : a3.length ≤ aa) (ha4 : Kd.C k61 w aB a4.length a4) (ea4 : a4.length ≤ ab) (hc5 : Kd.C k77 w cA c5.length c5) (ec5 : c5.length ≤ ca) (hc6 : Kd.C (Kd.int .u8) w cB c6.length c6) (ec6 : c6.length ≤ cb) (hd5 : Kd.C k77 w dA d5.length d5) (ed5 : d5.length ≤ da) (hd6 : Kd.C (Kd.int .u8) w dB d6.length d6) (ed6 : d6.length ≤ db) (hbx : ∀ w, Calls Tryd.prog 8 #[] w fun e w' => e = .returned (.bool true) ∧ Below w.heap.size w w') (r0 r1 r2 : Int) (r3 : List (S58)) (r4 : List (S61)) (r5 r6 : Int) (s0 s1 s2 : Int) (s3 : List (S58)) (s4 : List (S61)) (s5 s6 : Int) (u0 u1 u2 : Int) (u3 : List (S58)) (u4 : List (S61)) (u5 u6 : Int) (v0 v1 v2 : Int) (v3 : List (S58)) (v4 : List (S61)) (v5 v6 : Int) (g1 : (c0 != 2) = false) (g2 : (d0 != 2) = false) (g3 : (c1 == d1) = false) (p1 : mailbox_Apply.f k a0 a1 a2 a3 a4 c0 c1 c2 c3 c4 c5 c6 = some (r0, r1, r2, r3, r4, r5, r6)) (p2 : mailbox_Apply.f k r0 r1 r2 r3 r4 d0 d1 d2 d3 d4 d5 d6 = some (s0, s1, s2, s3, s4, s5, s6)) (p3 : mailbox_Apply.f k a0 a1 a2 a3 a4 d0 d1 d2 d3 d4 d5 d6 = some (u0, u1, u2, u3, u4, u5, u6)) (p4 : mailbox_Apply.f k u0 u1 u2 u3 u4 c0 c1 c2 c3 c4 c5 c6 = some (v0, v1, v2, v3, v4, v5, v6)) (q1 : (r5 != 0) = false) (q2 : (s5 != 0) = false) (q3 : (u5 != 0) = false) (q4 : (v5 != 0) = true) :
    Calls Tryd.prog 5 #[.agg #[.int .i64 a0, .int .i64 a1, .int .i64 a2, .slice aA a3.length aa, .slice aB a4.length ab], .agg #[.int .i64 c0, .int .i64 c1, .int .i64 c2, .int .i64 c3, .int .i64 c4, .slice cA c5.length ca, .slice cB c6.length cb], .agg #[.int .i64 d0, .int .i64 d1, .int .i64 d2, .int .i64 d3, .int .i64 d4, .slice dA d5.length da, .slice dB d6.length db]] w fun e w' => e = .returned (.bool true) ∧ Below w.heap.size w w' := by
  have P1 := Aside0.mk p1
  have P2 := Aside0.mk p2
  have P3 := Aside0.mk p3
  have P4 := Aside0.mk p4
  clear p1 p2 p3 p4
  have HA3 := Aside0.mk ha3
  have HA4 := Aside0.mk ha4
  have HC5 := Aside0.mk hc5
  have HC6 := Aside0.mk hc6
  have HD5 := Aside0.mk hd5
  have HD6 := Aside0.mk hd6
  have HBX := Aside0.mk hbx
  clear ha3 ha4 hc5 hc6 hd5 hd6 hbx
  have HB := Aside0.mk (below_alloc (below_alloc (below_alloc (Below.refl w.heap.size w) (.cells #[.int .i64 a0, .int .i64 a1, .int .i64 a2, .slice aA a3.length aa, .slice aB a4.length ab] 25)) (.cells #[.int .i64 c0, .int .i64 c1, .int .i64 c2, .int .i64 c3, .int .i64 c4, .slice cA c5.length ca, .slice cB c6.length cb] 31)) (.cells #[.int .i64 d0, .int .i64 d1, .int .i64 d2, .int .i64 d3, .int .i64 d4, .slice dA d5.length da, .slice dB d6.length db] 31))
  have HA := Aside0.mk (blk_later (blk_later (blk_at (w := w) (.cells #[.int .i64 a0, .int .i64 a1, .int .i64 a2, .slice aA a3.length aa, .slice aB a4.length ab] 25)) (.cells #[.int .i64 c0, .int .i64 c1, .int .i64 c2, .int .i64 c3, .int .i64 c4, .slice cA c5.length ca, .slice cB c6.length cb] 31)) (.cells #[.int .i64 d0, .int .i64 d1, .int .i64 d2, .int .i64 d3, .int .i64 d4, .slice dA d5.length da, .slice dB d6.length db] 31))
  have HC := Aside0.mk (blk_later (blk_at1 (w := w) (.cells #[.int .i64 a0, .int .i64 a1, .int .i64 a2, .slice aA a3.length aa, .slice aB a4.length ab] 25) (.cells #[.int .i64 c0, .int .i64 c1, .int .i64 c2, .int .i64 c3, .int .i64 c4, .slice cA c5.length ca, .slice cB c6.length cb] 31)) (.cells #[.int .i64 d0, .int .i64 d1, .int .i64 d2, .int .i64 d3, .int .i64 d4, .slice dA d5.length da, .slice dB d6.length db] 31))
  have HD := Aside0.mk (blk_at2 (w := w) (.cells #[.int .i64 a0, .int .i64 a1, .int .i64 a2, .slice aA a3.length aa, .slice aB a4.length ab] 25) (.cells #[.int .i64 c0, .int .i64 c1, .int .i64 c2, .int .i64 c3, .int .i64 c4, .slice cA c5.length ca, .slice cB c6.length cb] 31) (.cells #[.int .i64 d0, .int .i64 d1, .int .i64 d2, .int .i64 d3, .int .i64 d4, .slice dA d5.length da, .slice dB d6.length db] 31))
  go_enter Tryd.func5, Tryd.ntmps5
  go_wp2_with fail
  refine (HBX.out _).mono ?_
  rintro e w1 ⟨rfl, hb⟩
  replace HA := Aside0.mk (blk_call HA.out hb)
  replace HC := Aside0.mk (blk_call HC.out hb)
  replace HD := Aside0.mk (blk_call HD.out hb)
  replace HB := Aside0.mk (below_step HB.out hb)
  clear hb
  have kHA := bc0 HA.out
  have fHA := bf0 HA.out
  have yHA := blk_lt HA.out
  have kHC := bc0 HC.out
  have fHC := bf0 HC.out
  have yHC := blk_lt HC.out
  have kHD := bc0 HD.out
  have fHD := bf0 HD.out
  have yHD := blk_lt HD.out
  go_wp2_with fail
  clear kHA fHA yHA kHC fHC yHC kHD fHD yHD
  refine (mailbox_Apply.calls k a0 a1 a2 aA aa a3 aB ab a4 c0 c1 c2 c3 c4 cA ca c5 cB cb c6 r0 r1 r2 r3 r4 r5 r6 _ (Kd.C_below HA3.out HB.out) ea3 (Kd.C_below HA4.out HB.out) ea4 (Kd.C_below HC5.out HB.out) ec5 (Kd.C_below HC6.out HB.out) ec6 P1.out).mono ?_
  rintro e x1 ⟨v3_, v4_, rfl, hv3_, hv4_, hb⟩
  obtain ⟨rA, ra, rfl⟩ := Kd.V_slice hv3_
  obtain ⟨rB, rb, rfl⟩ := Kd.V_slice hv4_
  have HrV := Aside0.mk hv3_
  have HrW := Aside0.mk hv4_
  clear hv3_ hv4_
  replace HA := Aside0.mk (blk_call HA.out hb)
  replace HC := Aside0.mk (blk_call HC.out hb)
  replace HD := Aside0.mk (blk_call HD.out hb)
  replace HB := Aside0.mk (below_step HB.out hb)
  clear hb
  have kHA := bc0 HA.out
  have fHA := bf0 HA.out
  have yHA := blk_lt HA.out
  have kHC := bc0 HC.out
  have fHC := bf0 HC.out
  have yHC := blk_lt HC.out
  have kHD := bc0 HD.out
  have fHD := bf0 HD.out
  have yHD := blk_lt HD.out
  go_wp2_with fail
  clear kHA fHA yHA kHC fHC yHC kHD fHD yHD
  have l1_t7 := blk_lt HA.out
  have l2_t7 := blk_lt HC.out
  have l3_t7 := blk_lt HD.out
  replace HA := Aside0.mk (blk_later HA.out (.cells #[.int .i64 r0, .int .i64 r1, .int .i64 r2, .slice rA r3.length ra, .slice rB r4.length rb] 25))
  replace HC := Aside0.mk (blk_later HC.out (.cells #[.int .i64 r0, .int .i64 r1, .int .i64 r2, .slice rA r3.length ra, .slice rB r4.length rb] 25))
  replace HD := Aside0.mk (blk_later HD.out (.cells #[.int .i64 r0, .int .i64 r1, .int .i64 r2, .slice rA r3.length ra, .slice rB r4.length rb] 25))
  replace HrV := Aside0.mk (Kd.V_alloc HrV.out (.cells #[.int .i64 r0, .int .i64 r1, .int .i64 r2, .slice rA r3.length ra, .slice rB r4.length rb] 25))
  replace HrW := Aside0.mk (Kd.V_alloc HrW.out (.cells #[.int .i64 r0, .int .i64 r1, .int .i64 r2, .slice rA r3.length ra, .slice rB r4.length rb] 25))
  replace HB := Aside0.mk (below_alloc HB.out (.cells #[.int .i64 r0, .int .i64 r1, .int .i64 r2, .slice rA r3.length ra, .slice rB r4.length rb] 25))
  have HM := Aside0.mk (blk_at (w := x1) (.cells #[.int .i64 r0, .int .i64 r1, .int .i64 r2, .slice rA r3.length ra, .slice rB r4.length rb] 25))
  have hs_t7 : (x1.alloc (.cells #[.int .i64 r0, .int .i64 r1, .int .i64 r2, .slice rA r3.length ra, .slice rB r4.length rb] 25)).heap.size = x1.heap.size + 1 := by simp
  generalize x1.alloc (.cells #[.int .i64 r0, .int .i64 r1, .int .i64 r2, .slice rA r3.length ra, .slice rB r4.length rb] 25) = X2 at *
  generalize x1.heap.size = t7 at *
  have l4_t71 := blk_lt HA.out
  have l5_t71 := blk_lt HC.out
  have l6_t71 := blk_lt HD.out
  have l7_t71 := blk_lt HM.out
  replace HA := Aside0.mk (blk_later HA.out (.cells #[.int .i64 r5, .int .i64 r6] 33))
  replace HC := Aside0.mk (blk_later HC.out (.cells #[.int .i64 r5, .int .i64 r6] 33))
  replace HD := Aside0.mk (blk_later HD.out (.cells #[.int .i64 r5, .int .i64 r6] 33))
  replace HM := Aside0.mk (blk_later HM.out (.cells #[.int .i64 r5, .int .i64 r6] 33))
  replace HrV := Aside0.mk (Kd.V_alloc HrV.out (.cells #[.int .i64 r5, .int .i64 r6] 33))
  replace HrW := Aside0.mk (Kd.V_alloc HrW.out (.cells #[.int .i64 r5, .int .i64 r6] 33))
  replace HB := Aside0.mk (below_alloc HB.out (.cells #[.int .i64 r5, .int .i64 r6] 33))
  have HE1 := Aside0.mk (blk_at (w := X2) (.cells #[.int .i64 r5, .int .i64 r6] 33))
  rw [hs_t7] at HE1 l4_t71 l5_t71 l6_t71 l7_t71
  clear hs_t7
  generalize X2.alloc (.cells #[.int .i64 r5, .int .i64 r6] 33) = X3 at *
  have l8_cs := blk_lt HA.out
  have l9_cs := blk_lt HC.out
  have l10_cs := blk_lt HD.out
  have l11_cs := blk_lt HM.out
  have l12_cs := blk_lt HE1.out
  refine (mailbox_Apply.calls k r0 r1 r2 rA ra r3 rB rb r4 d0 d1 d2 d3 d4 dA da d5 dB db d6 s0 s1 s2 s3 s4 s5 s6 _ (Kd.F_now (Kd.V_F HrV.out)) (Kd.V_at HrV.out).2.1 (Kd.F_now (Kd.V_F HrW.out)) (Kd.V_at HrW.out).2.1 (Kd.C_below HD5.out HB.out) ed5 (Kd.C_below HD6.out HB.out) ed6 P2.out).mono ?_
  rintro e x4 ⟨v3_, v4_, rfl, hv3_, hv4_, hb⟩
  obtain ⟨sA, sa, rfl⟩ := Kd.V_slice hv3_
  obtain ⟨sB, sb, rfl⟩ := Kd.V_slice hv4_
  have HsV := Aside0.mk hv3_
  have HsW := Aside0.mk hv4_
  clear hv3_ hv4_
  have hz_s := below_size hb
  replace HA := Aside0.mk (blk_call HA.out hb)
  replace HC := Aside0.mk (blk_call HC.out hb)
  replace HD := Aside0.mk (blk_call HD.out hb)
  replace HM := Aside0.mk (blk_call HM.out hb)
  replace HE1 := Aside0.mk (blk_call HE1.out hb)
  replace HrV := Aside0.mk (Kd.V_below HrV.out hb)
  replace HrW := Aside0.mk (Kd.V_below HrW.out hb)
  replace HB := Aside0.mk (below_step HB.out hb)
  clear hb
  clear HrV HrW
  have kHM := bc0 HM.out
  have fHM := bf0 HM.out
  have yHM := blk_lt HM.out
  have kHA := bc0 HA.out
  have fHA := bf0 HA.out
  have yHA := blk_lt HA.out
  have kHD := bc0 HD.out
  have fHD := bf0 HD.out
  have yHD := blk_lt HD.out
  go_wp2_with fail
  clear kHM fHM yHM kHA fHA yHA kHD fHD yHD
  replace HA := Aside0.mk (blk_far (p := ⟨t7, 4, none⟩) (blk_far (p := ⟨t7, 3, none⟩) (blk_far (p := ⟨t7, 2, none⟩) (blk_far (p := ⟨t7, 1, none⟩) (blk_far (p := ⟨t7, 0, none⟩) HA.out (show w.heap.size ≠ t7 by omega) (.int .i64 s0)) (show w.heap.size ≠ t7 by omega) (.int .i64 s1)) (show w.heap.size ≠ t7 by omega) (.int .i64 s2)) (show w.heap.size ≠ t7 by omega) (.slice sA s3.length sa)) (show w.heap.size ≠ t7 by omega) (.slice sB s4.length sb))
  replace HC := Aside0.mk (blk_far (p := ⟨t7, 4, none⟩) (blk_far (p := ⟨t7, 3, none⟩) (blk_far (p := ⟨t7, 2, none⟩) (blk_far (p := ⟨t7, 1, none⟩) (blk_far (p := ⟨t7, 0, none⟩) HC.out (show w.heap.size + 1 ≠ t7 by omega) (.int .i64 s0)) (show w.heap.size + 1 ≠ t7 by omega) (.int .i64 s1)) (show w.heap.size + 1 ≠ t7 by omega) (.int .i64 s2)) (show w.heap.size + 1 ≠ t7 by omega) (.slice sA s3.length sa)) (show w.heap.size + 1 ≠ t7 by omega) (.slice sB s4.length sb))
  replace HD := Aside0.mk (blk_far (p := ⟨t7, 4, none⟩) (blk_far (p := ⟨t7, 3, none⟩) (blk_far (p := ⟨t7, 2, none⟩) (blk_far (p := ⟨t7, 1, none⟩) (blk_far (p := ⟨t7, 0, none⟩) HD.out (show w.heap.size + 1 + 1 ≠ t7 by omega) (.int .i64 s0)) (show w.heap.size + 1 + 1 ≠ t7 by omega) (.int .i64 s1)) (show w.heap.size + 1 + 1 ≠ t7 by omega) (.int .i64 s2)) (show w.heap.size + 1 + 1 ≠ t7 by omega) (.slice sA s3.length sa)) (show w.heap.size + 1 + 1 ≠ t7 by omega) (.slice sB s4.length sb))
  replace HM : Aside0 (((((((x4).setCell ⟨t7, 0, none⟩ (.int .i64 s0)).setCell ⟨t7, 1, none⟩ (.int .i64 s1)).setCell ⟨t7, 2, none⟩ (.int .i64 s2)).setCell ⟨t7, 3, none⟩ (.slice sA s3.length sa)).setCell ⟨t7, 4, none⟩ (.slice sB s4.length sb)).heap[t7]? = some (.cells #[(.int .i64 s0), (.int .i64 s1), (.int .i64 s2), (.slice sA s3.length sa), (.slice sB s4.length sb)] 25 (0, 0))) := Aside0.mk (blk_put (blk_put (blk_put (blk_put (blk_put HM.out 0 (.int .i64 s0) rfl) 1 (.int .i64 s1) rfl) 2 (.int .i64 s2) rfl) 3 (.slice sA s3.length sa) rfl) 4 (.slice sB s4.length sb) rfl)
  replace HE1 := Aside0.mk (blk_far (p := ⟨t7, 4, none⟩) (blk_far (p := ⟨t7, 3, none⟩) (blk_far (p := ⟨t7, 2, none⟩) (blk_far (p := ⟨t7, 1, none⟩) (blk_far (p := ⟨t7, 0, none⟩) HE1.out (show t7 + 1 ≠ t7 by omega) (.int .i64 s0)) (show t7 + 1 ≠ t7 by omega) (.int .i64 s1)) (show t7 + 1 ≠ t7 by omega) (.int .i64 s2)) (show t7 + 1 ≠ t7 by omega) (.slice sA s3.length sa)) (show t7 + 1 ≠ t7 by omega) (.slice sB s4.length sb))
  replace HsV := Aside0.mk (Kd.V_far (p := ⟨t7, 4, none⟩) (Kd.V_far (p := ⟨t7, 3, none⟩) (Kd.V_far (p := ⟨t7, 2, none⟩) (Kd.V_far (p := ⟨t7, 1, none⟩) (Kd.V_far (p := ⟨t7, 0, none⟩) HsV.out (fun k_ (hk_ : X3.heap.size ≤ k_) => by show k_ ≠ t7; omega) (.int .i64 s0)) (fun k_ (hk_ : X3.heap.size ≤ k_) => by show k_ ≠ t7; omega) (.int .i64 s1)) (fun k_ (hk_ : X3.heap.size ≤ k_) => by show k_ ≠ t7; omega) (.int .i64 s2)) (fun k_ (hk_ : X3.heap.size ≤ k_) => by show k_ ≠ t7; omega) (.slice sA s3.length sa)) (fun k_ (hk_ : X3.heap.size ≤ k_) => by show k_ ≠ t7; omega) (.slice sB s4.length sb))
  replace HsW := Aside0.mk (Kd.V_far (p := ⟨t7, 4, none⟩) (Kd.V_far (p := ⟨t7, 3, none⟩) (Kd.V_far (p := ⟨t7, 2, none⟩) (Kd.V_far (p := ⟨t7, 1, none⟩) (Kd.V_far (p := ⟨t7, 0, none⟩) HsW.out (fun k_ (hk_ : X3.heap.size ≤ k_) => by show k_ ≠ t7; omega) (.int .i64 s0)) (fun k_ (hk_ : X3.heap.size ≤ k_) => by show k_ ≠ t7; omega) (.int .i64 s1)) (fun k_ (hk_ : X3.heap.size ≤ k_) => by show k_ ≠ t7; omega) (.int .i64 s2)) (fun k_ (hk_ : X3.heap.size ≤ k_) => by show k_ ≠ t7; omega) (.slice sA s3.length sa)) (fun k_ (hk_ : X3.heap.size ≤ k_) => by show k_ ≠ t7; omega) (.slice sB s4.length sb))
  replace HB := Aside0.mk (below_set (j := 4) (v := (.slice sB s4.length sb)) (below_set (j := 3) (v := (.slice sA s3.length sa)) (below_set (j := 2) (v := (.int .i64 s2)) (below_set (j := 1) (v := (.int .i64 s1)) (below_set (j := 0) (v := (.int .i64 s0)) HB.out (show w.heap.size ≤ t7 by omega)) (show w.heap.size ≤ t7 by omega)) (show w.heap.size ≤ t7 by omega)) (show w.heap.size ≤ t7 by omega)) (show w.heap.size ≤ t7 by omega))
  have hp_s : ((((((x4).setCell ⟨t7, 0, none⟩ (.int .i64 s0)).setCell ⟨t7, 1, none⟩ (.int .i64 s1)).setCell ⟨t7, 2, none⟩ (.int .i64 s2)).setCell ⟨t7, 3, none⟩ (.slice sA s3.length sa)).setCell ⟨t7, 4, none⟩ (.slice sB s4.length sb)).heap.size = x4.heap.size := by simp
  generalize (((((x4).setCell ⟨t7, 0, none⟩ (.int .i64 s0)).setCell ⟨t7, 1, none⟩ (.int .i64 s1)).setCell ⟨t7, 2, none⟩ (.int .i64 s2)).setCell ⟨t7, 3, none⟩ (.slice sA s3.length sa)).setCell ⟨t7, 4, none⟩ (.slice sB s4.length sb) = X5 at *
  have l13_t9 := blk_lt HA.out
  have l14_t9 := blk_lt HC.out
  have l15_t9 := blk_lt HD.out
  have l16_t9 := blk_lt HM.out
  have l17_t9 := blk_lt HE1.out
  replace HA := Aside0.mk (blk_later HA.out (.cells #[.int .i64 s5, .int .i64 s6] 33))
  replace HC := Aside0.mk (blk_later HC.out (.cells #[.int .i64 s5, .int .i64 s6] 33))
  replace HD := Aside0.mk (blk_later HD.out (.cells #[.int .i64 s5, .int .i64 s6] 33))
  replace HM := Aside0.mk (blk_later HM.out (.cells #[.int .i64 s5, .int .i64 s6] 33))
  replace HE1 := Aside0.mk (blk_later HE1.out (.cells #[.int .i64 s5, .int .i64 s6] 33))
  replace HsV := Aside0.mk (Kd.V_alloc HsV.out (.cells #[.int .i64 s5, .int .i64 s6] 33))
  replace HsW := Aside0.mk (Kd.V_alloc HsW.out (.cells #[.int .i64 s5, .int .i64 s6] 33))
  replace HB := Aside0.mk (below_alloc HB.out (.cells #[.int .i64 s5, .int .i64 s6] 33))
  have HE2 := Aside0.mk (blk_at (w := X5) (.cells #[.int .i64 s5, .int .i64 s6] 33))
  rw [hp_s] at HE2 l13_t9 l14_t9 l15_t9 l16_t9 l17_t9
  clear hp_s
  generalize X5.alloc (.cells #[.int .i64 s5, .int .i64 s6] 33) = X6 at *
  generalize x4.heap.size = t9 at *
  have l18_cu := blk_lt HA.out
  have l19_cu := blk_lt HC.out
  have l20_cu := blk_lt HD.out
  have l21_cu := blk_lt HM.out
  have l22_cu := blk_lt HE1.out
  have l23_cu := blk_lt HE2.out
  refine (mailbox_Apply.calls k a0 a1 a2 aA aa a3 aB ab a4 d0 d1 d2 d3 d4 dA da d5 dB db d6 u0 u1 u2 u3 u4 u5 u6 _ (Kd.C_below HA3.out HB.out) ea3 (Kd.C_below HA4.out HB.out) ea4 (Kd.C_below HD5.out HB.out) ed5 (Kd.C_below HD6.out HB.out) ed6 P3.out).mono ?_
  rintro e x7 ⟨v3_, v4_, rfl, hv3_, hv4_, hb⟩
  obtain ⟨uA, ua, rfl⟩ := Kd.V_slice hv3_
  obtain ⟨uB, ub, rfl⟩ := Kd.V_slice hv4_
  have HuV := Aside0.mk hv3_
  have HuW := Aside0.mk hv4_
  clear hv3_ hv4_
  have hz_u := below_size hb
  replace HA := Aside0.mk (blk_call HA.out hb)
  replace HC := Aside0.mk (blk_call HC.out hb)
  replace HD := Aside0.mk (blk_call HD.out hb)
  replace HM := Aside0.mk (blk_call HM.out hb)
  replace HE1 := Aside0.mk (blk_call HE1.out hb)
  replace HE2 := Aside0.mk (blk_call HE2.out hb)
  replace HsV := Aside0.mk (Kd.V_below HsV.out hb)
  replace HsW := Aside0.mk (Kd.V_below HsW.out hb)
  replace HB := Aside0.mk (below_step HB.out hb)
  clear hb
  have kHA := bc0 HA.out
  have fHA := bf0 HA.out
  have yHA := blk_lt HA.out
  have kHC := bc0 HC.out
  have fHC := bf0 HC.out
  have yHC := blk_lt HC.out
  have kHD := bc0 HD.out
  have fHD := bf0 HD.out
  have yHD := blk_lt HD.out
  go_wp2_with fail
  clear kHA fHA yHA kHC fHC yHC kHD fHD yHD
  have l24_t10 := blk_lt HA.out
  have l25_t10 := blk_lt HC.out
  have l26_t10 := blk_lt HD.out
  have l27_t10 := blk_lt HM.out
  have l28_t10 := blk_lt HE1.out
  have l29_t10 := blk_lt HE2.out
  replace HsV := Aside0.mk (Kd.V_mono (ok' := fun k_ => X3.heap.size ≤ k_ ∧ k_ ≠ x7.heap.size) (Kd.V_elderB HsV.out x7.heap.size (Nat.le_refl _)) (fun k_ hk_ => by have h1_ := hk_.1; have h2_ := hk_.2; omega))
  replace HsW := Aside0.mk (Kd.V_mono (ok' := fun k_ => X3.heap.size ≤ k_ ∧ k_ ≠ x7.heap.size) (Kd.V_elderB HsW.out x7.heap.size (Nat.le_refl _)) (fun k_ hk_ => by have h1_ := hk_.1; have h2_ := hk_.2; omega))
  replace HuV := Aside0.mk (Kd.V_mono (ok' := fun k_ => X6.heap.size ≤ k_ ∧ k_ ≠ x7.heap.size) (Kd.V_elderB HuV.out x7.heap.size (Nat.le_refl _)) (fun k_ hk_ => by have h1_ := hk_.1; have h2_ := hk_.2; omega))
  replace HuW := Aside0.mk (Kd.V_mono (ok' := fun k_ => X6.heap.size ≤ k_ ∧ k_ ≠ x7.heap.size) (Kd.V_elderB HuW.out x7.heap.size (Nat.le_refl _)) (fun k_ hk_ => by have h1_ := hk_.1; have h2_ := hk_.2; omega))
  replace HA := Aside0.mk (blk_later HA.out (.cells #[.int .i64 u0, .int .i64 u1, .int .i64 u2, .slice uA u3.length ua, .slice uB u4.length ub] 25))
  replace HC := Aside0.mk (blk_later HC.out (.cells #[.int .i64 u0, .int .i64 u1, .int .i64 u2, .slice uA u3.length ua, .slice uB u4.length ub] 25))
  replace HD := Aside0.mk (blk_later HD.out (.cells #[.int .i64 u0, .int .i64 u1, .int .i64 u2, .slice uA u3.length ua, .slice uB u4.length ub] 25))
  replace HM := Aside0.mk (blk_later HM.out (.cells #[.int .i64 u0, .int .i64 u1, .int .i64 u2, .slice uA u3.length ua, .slice uB u4.length ub] 25))
  replace HE1 := Aside0.mk (blk_later HE1.out (.cells #[.int .i64 u0, .int .i64 u1, .int .i64 u2, .slice uA u3.length ua, .slice uB u4.length ub] 25))
  replace HE2 := Aside0.mk (blk_later HE2.out (.cells #[.int .i64 u0, .int .i64 u1, .int .i64 u2, .slice uA u3.length ua, .slice uB u4.length ub] 25))
  replace HsV := Aside0.mk (Kd.V_alloc HsV.out (.cells #[.int .i64 u0, .int .i64 u1, .int .i64 u2, .slice uA u3.length ua, .slice uB u4.length ub] 25))
  replace HsW := Aside0.mk (Kd.V_alloc HsW.out (.cells #[.int .i64 u0, .int .i64 u1, .int .i64 u2, .slice uA u3.length ua, .slice uB u4.length ub] 25))
  replace HuV := Aside0.mk (Kd.V_alloc HuV.out (.cells #[.int .i64 u0, .int .i64 u1, .int .i64 u2, .slice uA u3.length ua, .slice uB u4.length ub] 25))
  replace HuW := Aside0.mk (Kd.V_alloc HuW.out (.cells #[.int .i64 u0, .int .i64 u1, .int .i64 u2, .slice uA u3.length ua, .slice uB u4.length ub] 25))
  replace HB := Aside0.mk (below_alloc HB.out (.cells #[.int .i64 u0, .int .i64 u1, .int .i64 u2, .slice uA u3.length ua, .slice uB u4.length ub] 25))
  have HN := Aside0.mk (blk_at (w := x7) (.cells #[.int .i64 u0, .int .i64 u1, .int .i64 u2, .slice uA u3.length ua, .slice uB u4.length ub] 25))
  have hs_t10 : (x7.alloc (.cells #[.int .i64 u0, .int .i64 u1, .int .i64 u2, .slice uA u3.length ua, .slice uB u4.length ub] 25)).heap.size = x7.heap.size + 1 := by simp
  generalize x7.alloc (.cells #[.int .i64 u0, .int .i64 u1, .int .i64 u2, .slice uA u3.length ua, .slice uB u4.length ub] 25) = X8 at *
  generalize x7.heap.size = t10 at *
  have l30_t101 := blk_lt HA.out
  have l31_t101 := blk_lt HC.out
  have l32_t101 := blk_lt HD.out
  have l33_t101 := blk_lt HM.out
  have l34_t101 := blk_lt HE1.out
  have l35_t101 := blk_lt HE2.out
  have l36_t101 := blk_lt HN.out
  replace HA := Aside0.mk (blk_later HA.out (.cells #[.int .i64 u5, .int .i64 u6] 33))
  replace HC := Aside0.mk (blk_later HC.out (.cells #[.int .i64 u5, .int .i64 u6] 33))
  replace HD := Aside0.mk (blk_later HD.out (.cells #[.int .i64 u5, .int .i64 u6] 33))
  replace HM := Aside0.mk (blk_later HM.out (.cells #[.int .i64 u5, .int .i64 u6] 33))
  replace HE1 := Aside0.mk (blk_later HE1.out (.cells #[.int .i64 u5, .int .i64 u6] 33))
  replace HE2 := Aside0.mk (blk_later HE2.out (.cells #[.int .i64 u5, .int .i64 u6] 33))
  replace HN := Aside0.mk (blk_later HN.out (.cells #[.int .i64 u5, .int .i64 u6] 33))
  replace HsV := Aside0.mk (Kd.V_alloc HsV.out (.cells #[.int .i64 u5, .int .i64 u6] 33))
  replace HsW := Aside0.mk (Kd.V_alloc HsW.out (.cells #[.int .i64 u5, .int .i64 u6] 33))
  replace HuV := Aside0.mk (Kd.V_alloc HuV.out (.cells #[.int .i64 u5, .int .i64 u6] 33))
  replace HuW := Aside0.mk (Kd.V_alloc HuW.out (.cells #[.int .i64 u5, .int .i64 u6] 33))
  replace HB := Aside0.mk (below_alloc HB.out (.cells #[.int .i64 u5, .int .i64 u6] 33))
  have HE3 := Aside0.mk (blk_at (w := X8) (.cells #[.int .i64 u5, .int .i64 u6] 33))
  rw [hs_t10] at HE3 l30_t101 l31_t101 l32_t101 l33_t101 l34_t101 l35_t101 l36_t101
  clear hs_t10
  generalize X8.alloc (.cells #[.int .i64 u5, .int .i64 u6] 33) = X9 at *
  have l37_cv := blk_lt HA.out
  have l38_cv := blk_lt HC.out
  have l39_cv := blk_lt HD.out
  have l40_cv := blk_lt HM.out
  have l41_cv := blk_lt HE1.out
  have l42_cv := blk_lt HE2.out
  have l43_cv := blk_lt HN.out
  have l44_cv := blk_lt HE3.out
  refine (mailbox_Apply.calls k u0 u1 u2 uA ua u3 uB ub u4 c0 c1 c2 c3 c4 cA ca c5 cB cb c6 v0 v1 v2 v3 v4 v5 v6 _ (Kd.F_now (Kd.V_F HuV.out)) (Kd.V_at HuV.out).2.1 (Kd.F_now (Kd.V_F HuW.out)) (Kd.V_at HuW.out).2.1 (Kd.C_below HC5.out HB.out) ec5 (Kd.C_below HC6.out HB.out) ec6 P4.out).mono ?_
  rintro e x10 ⟨v3_, v4_, rfl, hv3_, hv4_, hb⟩
  obtain ⟨vA, va, rfl⟩ := Kd.V_slice hv3_
  obtain ⟨vB, vb, rfl⟩ := Kd.V_slice hv4_
  have HvV := Aside0.mk hv3_
  have HvW := Aside0.mk hv4_
  clear hv3_ hv4_
  have hz_v := below_size hb
  replace HA := Aside0.mk (blk_call HA.out hb)
  replace HC := Aside0.mk (blk_call HC.out hb)
  replace HD := Aside0.mk (blk_call HD.out hb)
  replace HM := Aside0.mk (blk_call HM.out hb)
  replace HE1 := Aside0.mk (blk_call HE1.out hb)
  replace HE2 := Aside0.mk (blk_call HE2.out hb)
  replace HN := Aside0.mk (blk_call HN.out hb)
  replace HE3 := Aside0.mk (blk_call HE3.out hb)
  replace HsV := Aside0.mk (Kd.V_below HsV.out hb)
  replace HsW := Aside0.mk (Kd.V_below HsW.out hb)
  replace HuV := Aside0.mk (Kd.V_below HuV.out hb)
  replace HuW := Aside0.mk (Kd.V_below HuW.out hb)
  replace HB := Aside0.mk (below_step HB.out hb)
  clear hb
  clear HuV HuW
  have kHN := bc0 HN.out
  have fHN := bf0 HN.out
  have yHN := blk_lt HN.out
  have kHE1 := bc0 HE1.out
  have fHE1 := bf0 HE1.out
  have yHE1 := blk_lt HE1.out
  have kHE2 := bc0 HE2.out
  have fHE2 := bf0 HE2.out
  have yHE2 := blk_lt HE2.out
  have kHE3 := bc0 HE3.out
  have fHE3 := bf0 HE3.out
  have yHE3 := blk_lt HE3.out
  go_wp2
  clear kHN fHN yHN kHE1 fHE1 yHE1 kHE2 fHE2 yHE2 kHE3 fHE3 yHE3
  replace HA := Aside0.mk (blk_far (p := ⟨t10, 4, none⟩) (blk_far (p := ⟨t10, 3, none⟩) (blk_far (p := ⟨t10, 2, none⟩) (blk_far (p := ⟨t10, 1, none⟩) (blk_far (p := ⟨t10, 0, none⟩) HA.out (show w.heap.size ≠ t10 by omega) (.int .i64 v0)) (show w.heap.size ≠ t10 by omega) (.int .i64 v1)) (show w.heap.size ≠ t10 by omega) (.int .i64 v2)) (show w.heap.size ≠ t10 by omega) (.slice vA v3.length va)) (show w.heap.size ≠ t10 by omega) (.slice vB v4.length vb))
  replace HC := Aside0.mk (blk_far (p := ⟨t10, 4, none⟩) (blk_far (p := ⟨t10, 3, none⟩) (blk_far (p := ⟨t10, 2, none⟩) (blk_far (p := ⟨t10, 1, none⟩) (blk_far (p := ⟨t10, 0, none⟩) HC.out (show w.heap.size + 1 ≠ t10 by omega) (.int .i64 v0)) (show w.heap.size + 1 ≠ t10 by omega) (.int .i64 v1)) (show w.heap.size + 1 ≠ t10 by omega) (.int .i64 v2)) (show w.heap.size + 1 ≠ t10 by omega) (.slice vA v3.length va)) (show w.heap.size + 1 ≠ t10 by omega) (.slice vB v4.length vb))
  replace HD := Aside0.mk (blk_far (p := ⟨t10, 4, none⟩) (blk_far (p := ⟨t10, 3, none⟩) (blk_far (p := ⟨t10, 2, none⟩) (blk_far (p := ⟨t10, 1, none⟩) (blk_far (p := ⟨t10, 0, none⟩) HD.out (show w.heap.size + 1 + 1 ≠ t10 by omega) (.int .i64 v0)) (show w.heap.size + 1 + 1 ≠ t10 by omega) (.int .i64 v1)) (show w.heap.size + 1 + 1 ≠ t10 by omega) (.int .i64 v2)) (show w.heap.size + 1 + 1 ≠ t10 by omega) (.slice vA v3.length va)) (show w.heap.size + 1 + 1 ≠ t10 by omega) (.slice vB v4.length vb))
  replace HM := Aside0.mk (blk_far (p := ⟨t10, 4, none⟩) (blk_far (p := ⟨t10, 3, none⟩) (blk_far (p := ⟨t10, 2, none⟩) (blk_far (p := ⟨t10, 1, none⟩) (blk_far (p := ⟨t10, 0, none⟩) HM.out (show t7 ≠ t10 by omega) (.int .i64 v0)) (show t7 ≠ t10 by omega) (.int .i64 v1)) (show t7 ≠ t10 by omega) (.int .i64 v2)) (show t7 ≠ t10 by omega) (.slice vA v3.length va)) (show t7 ≠ t10 by omega) (.slice vB v4.length vb))
  replace HE1 := Aside0.mk (blk_far (p := ⟨t10, 4, none⟩) (blk_far (p := ⟨t10, 3, none⟩) (blk_far (p := ⟨t10, 2, none⟩) (blk_far (p := ⟨t10, 1, none⟩) (blk_far (p := ⟨t10, 0, none⟩) HE1.out (show t7 + 1 ≠ t10 by omega) (.int .i64 v0)) (show t7 + 1 ≠ t10 by omega) (.int .i64 v1)) (show t7 + 1 ≠ t10 by omega) (.int .i64 v2)) (show t7 + 1 ≠ t10 by omega) (.slice vA v3.length va)) (show t7 + 1 ≠ t10 by omega) (.slice vB v4.length vb))
  replace HE2 := Aside0.mk (blk_far (p := ⟨t10, 4, none⟩) (blk_far (p := ⟨t10, 3, none⟩) (blk_far (p := ⟨t10, 2, none⟩) (blk_far (p := ⟨t10, 1, none⟩) (blk_far (p := ⟨t10, 0, none⟩) HE2.out (show t9 ≠ t10 by omega) (.int .i64 v0)) (show t9 ≠ t10 by omega) (.int .i64 v1)) (show t9 ≠ t10 by omega) (.int .i64 v2)) (show t9 ≠ t10 by omega) (.slice vA v3.length va)) (show t9 ≠ t10 by omega) (.slice vB v4.length vb))
  replace HN : Aside0 (((((((x10).setCell ⟨t10, 0, none⟩ (.int .i64 v0)).setCell ⟨t10, 1, none⟩ (.int .i64 v1)).setCell ⟨t10, 2, none⟩ (.int .i64 v2)).setCell ⟨t10, 3, none⟩ (.slice vA v3.length va)).setCell ⟨t10, 4, none⟩ (.slice vB v4.length vb)).heap[t10]? = some (.cells #[(.int .i64 v0), (.int .i64 v1), (.int .i64 v2), (.slice vA v3.length va), (.slice vB v4.length vb)] 25 (0, 0))) := Aside0.mk (blk_put (blk_put (blk_put (blk_put (blk_put HN.out 0 (.int .i64 v0) rfl) 1 (.int .i64 v1) rfl) 2 (.int .i64 v2) rfl) 3 (.slice vA v3.length va) rfl) 4 (.slice vB v4.length vb) rfl)
  replace HE3 := Aside0.mk (blk_far (p := ⟨t10, 4, none⟩) (blk_far (p := ⟨t10, 3, none⟩) (blk_far (p := ⟨t10, 2, none⟩) (blk_far (p := ⟨t10, 1, none⟩) (blk_far (p := ⟨t10, 0, none⟩) HE3.out (show t10 + 1 ≠ t10 by omega) (.int .i64 v0)) (show t10 + 1 ≠ t10 by omega) (.int .i64 v1)) (show t10 + 1 ≠ t10 by omega) (.int .i64 v2)) (show t10 + 1 ≠ t10 by omega) (.slice vA v3.length va)) (show t10 + 1 ≠ t10 by omega) (.slice vB v4.length vb))
  replace HsV := Aside0.mk (Kd.V_far (p := ⟨t10, 4, none⟩) (Kd.V_far (p := ⟨t10, 3, none⟩) (Kd.V_far (p := ⟨t10, 2, none⟩) (Kd.V_far (p := ⟨t10, 1, none⟩) (Kd.V_far (p := ⟨t10, 0, none⟩) HsV.out (fun k_ (hk_ : X3.heap.size ≤ k_ ∧ k_ ≠ t10) => by show k_ ≠ t10; omega) (.int .i64 v0)) (fun k_ (hk_ : X3.heap.size ≤ k_ ∧ k_ ≠ t10) => by show k_ ≠ t10; omega) (.int .i64 v1)) (fun k_ (hk_ : X3.heap.size ≤ k_ ∧ k_ ≠ t10) => by show k_ ≠ t10; omega) (.int .i64 v2)) (fun k_ (hk_ : X3.heap.size ≤ k_ ∧ k_ ≠ t10) => by show k_ ≠ t10; omega) (.slice vA v3.length va)) (fun k_ (hk_ : X3.heap.size ≤ k_ ∧ k_ ≠ t10) => by show k_ ≠ t10; omega) (.slice vB v4.length vb))
  replace HsW := Aside0.mk (Kd.V_far (p := ⟨t10, 4, none⟩) (Kd.V_far (p := ⟨t10, 3, none⟩) (Kd.V_far (p := ⟨t10, 2, none⟩) (Kd.V_far (p := ⟨t10, 1, none⟩) (Kd.V_far (p := ⟨t10, 0, none⟩) HsW.out (fun k_ (hk_ : X3.heap.size ≤ k_ ∧ k_ ≠ t10) => by show k_ ≠ t10; omega) (.int .i64 v0)) (fun k_ (hk_ : X3.heap.size ≤ k_ ∧ k_ ≠ t10) => by show k_ ≠ t10; omega) (.int .i64 v1)) (fun k_ (hk_ : X3.heap.size ≤ k_ ∧ k_ ≠ t10) => by show k_ ≠ t10; omega) (.int .i64 v2)) (fun k_ (hk_ : X3.heap.size ≤ k_ ∧ k_ ≠ t10) => by show k_ ≠ t10; omega) (.slice vA v3.length va)) (fun k_ (hk_ : X3.heap.size ≤ k_ ∧ k_ ≠ t10) => by show k_ ≠ t10; omega) (.slice vB v4.length vb))
  replace HvV := Aside0.mk (Kd.V_far (p := ⟨t10, 4, none⟩) (Kd.V_far (p := ⟨t10, 3, none⟩) (Kd.V_far (p := ⟨t10, 2, none⟩) (Kd.V_far (p := ⟨t10, 1, none⟩) (Kd.V_far (p := ⟨t10, 0, none⟩) HvV.out (fun k_ (hk_ : X9.heap.size ≤ k_) => by show k_ ≠ t10; omega) (.int .i64 v0)) (fun k_ (hk_ : X9.heap.size ≤ k_) => by show k_ ≠ t10; omega) (.int .i64 v1)) (fun k_ (hk_ : X9.heap.size ≤ k_) => by show k_ ≠ t10; omega) (.int .i64 v2)) (fun k_ (hk_ : X9.heap.size ≤ k_) => by show k_ ≠ t10; omega) (.slice vA v3.length va)) (fun k_ (hk_ : X9.heap.size ≤ k_) => by show k_ ≠ t10; omega) (.slice vB v4.length vb))
  replace HvW := Aside0.mk (Kd.V_far (p := ⟨t10, 4, none⟩) (Kd.V_far (p := ⟨t10, 3, none⟩) (Kd.V_far (p := ⟨t10, 2, none⟩) (Kd.V_far (p := ⟨t10, 1, none⟩) (Kd.V_far (p := ⟨t10, 0, none⟩) HvW.out (fun k_ (hk_ : X9.heap.size ≤ k_) => by show k_ ≠ t10; omega) (.int .i64 v0)) (fun k_ (hk_ : X9.heap.size ≤ k_) => by show k_ ≠ t10; omega) (.int .i64 v1)) (fun k_ (hk_ : X9.heap.size ≤ k_) => by show k_ ≠ t10; omega) (.int .i64 v2)) (fun k_ (hk_ : X9.heap.size ≤ k_) => by show k_ ≠ t10; omega) (.slice vA v3.length va)) (fun k_ (hk_ : X9.heap.size ≤ k_) => by show k_ ≠ t10; omega) (.slice vB v4.length vb))
  replace HB := Aside0.mk (below_set (j := 4) (v := (.slice vB v4.length vb)) (below_set (j := 3) (v := (.slice vA v3.length va)) (below_set (j := 2) (v := (.int .i64 v2)) (below_set (j := 1) (v := (.int .i64 v1)) (below_set (j := 0) (v := (.int .i64 v0)) HB.out (show w.heap.size ≤ t10 by omega)) (show w.heap.size ≤ t10 by omega)) (show w.heap.size ≤ t10 by omega)) (show w.heap.size ≤ t10 by omega)) (show w.heap.size ≤ t10 by omega))
  have hp_v : ((((((x10).setCell ⟨t10, 0, none⟩ (.int .i64 v0)).setCell ⟨t10, 1, none⟩ (.int .i64 v1)).setCell ⟨t10, 2, none⟩ (.int .i64 v2)).setCell ⟨t10, 3, none⟩ (.slice vA v3.length va)).setCell ⟨t10, 4, none⟩ (.slice vB v4.length vb)).heap.size = x10.heap.size := by simp
  generalize (((((x10).setCell ⟨t10, 0, none⟩ (.int .i64 v0)).setCell ⟨t10, 1, none⟩ (.int .i64 v1)).setCell ⟨t10, 2, none⟩ (.int .i64 v2)).setCell ⟨t10, 3, none⟩ (.slice vA v3.length va)).setCell ⟨t10, 4, none⟩ (.slice vB v4.length vb) = X11 at *
  have l45_t12 := blk_lt HA.out
  have l46_t12 := blk_lt HC.out
  have l47_t12 := blk_lt HD.out
  have l48_t12 := blk_lt HM.out
  have l49_t12 := blk_lt HE1.out
  have l50_t12 := blk_lt HE2.out
  have l51_t12 := blk_lt HN.out
  have l52_t12 := blk_lt HE3.out
  replace HA := Aside0.mk (blk_later HA.out (.cells #[.int .i64 v5, .int .i64 v6] 33))
  replace HC := Aside0.mk (blk_later HC.out (.cells #[.int .i64 v5, .int .i64 v6] 33))
  replace HD := Aside0.mk (blk_later HD.out (.cells #[.int .i64 v5, .int .i64 v6] 33))
  replace HM := Aside0.mk (blk_later HM.out (.cells #[.int .i64 v5, .int .i64 v6] 33))
  replace HE1 := Aside0.mk (blk_later HE1.out (.cells #[.int .i64 v5, .int .i64 v6] 33))
  replace HE2 := Aside0.mk (blk_later HE2.out (.cells #[.int .i64 v5, .int .i64 v6] 33))
  replace HN := Aside0.mk (blk_later HN.out (.cells #[.int .i64 v5, .int .i64 v6] 33))
  replace HE3 := Aside0.mk (blk_later HE3.out (.cells #[.int .i64 v5, .int .i64 v6] 33))
  replace HsV := Aside0.mk (Kd.V_alloc HsV.out (.cells #[.int .i64 v5, .int .i64 v6] 33))
  replace HsW := Aside0.mk (Kd.V_alloc HsW.out (.cells #[.int .i64 v5, .int .i64 v6] 33))
  replace HvV := Aside0.mk (Kd.V_alloc HvV.out (.cells #[.int .i64 v5, .int .i64 v6] 33))
  replace HvW := Aside0.mk (Kd.V_alloc HvW.out (.cells #[.int .i64 v5, .int .i64 v6] 33))
  replace HB := Aside0.mk (below_alloc HB.out (.cells #[.int .i64 v5, .int .i64 v6] 33))
  have HE4 := Aside0.mk (blk_at (w := X11) (.cells #[.int .i64 v5, .int .i64 v6] 33))
  rw [hp_v] at HE4 l45_t12 l46_t12 l47_t12 l48_t12 l49_t12 l50_t12 l51_t12 l52_t12
  clear hp_v
  generalize X11.alloc (.cells #[.int .i64 v5, .int .i64 v6] 33) = X12 at *
  generalize x10.heap.size = t12 at *
  go_ret
  exact ⟨rfl, HB.out⟩

set_option maxHeartbeats 8000000 in
set_option maxRecDepth 100000 in
theorem FlagsCommute_ok (k : Nat) (a0 a1 a2 : Int) (aA : Option Addr) (aa : Nat) (a3 : List (S58)) (aB : Option Addr) (ab : Nat) (a4 : List (S61)) (c0 c1 c2 c3 c4 : Int) (cA : Option Addr) (ca : Nat) (c5 : List (S77)) (cB : Option Addr) (cb : Nat) (c6 : List Int) (d0 d1 d2 d3 d4 : Int) (dA : Option Addr) (da : Nat) (d5 : List (S77)) (dB : Option Addr) (db : Nat) (d6 : List Int) (w : World) (ha3 : Kd.C k58 w aA a3.length a3) (ea3 : a3.length ≤ aa) (ha4 : Kd.C k61 w aB a4.length a4) (ea4 : a4.length ≤ ab) (hc5 : Kd.C k77 w cA c5.length c5) (ec5 : c5.length ≤ ca) (hc6 : Kd.C (Kd.int .u8) w cB c6.length c6) (ec6 : c6.length ≤ cb) (hd5 : Kd.C k77 w dA d5.length d5) (ed5 : d5.length ≤ da) (hd6 : Kd.C (Kd.int .u8) w dB d6.length d6) (ed6 : d6.length ≤ db) (hbx : ∀ w, Calls Tryd.prog 8 #[] w fun e w' => e = .returned (.bool true) ∧ Below w.heap.size w w') (r0 r1 r2 : Int) (r3 : List (S58)) (r4 : List (S61)) (r5 r6 : Int) (s0 s1 s2 : Int) (s3 : List (S58)) (s4 : List (S61)) (s5 s6 : Int) (u0 u1 u2 : Int) (u3 : List (S58)) (u4 : List (S61)) (u5 u6 : Int) (v0 v1 v2 : Int) (v3 : List (S58)) (v4 : List (S61)) (v5 v6 : Int) (g1 : (c0 != 2) = false) (g2 : (d0 != 2) = false) (g3 : (c1 == d1) = false) (p1 : mailbox_Apply.f k a0 a1 a2 a3 a4 c0 c1 c2 c3 c4 c5 c6 = some (r0, r1, r2, r3, r4, r5, r6)) (p2 : mailbox_Apply.f k r0 r1 r2 r3 r4 d0 d1 d2 d3 d4 d5 d6 = some (s0, s1, s2, s3, s4, s5, s6)) (p3 : mailbox_Apply.f k a0 a1 a2 a3 a4 d0 d1 d2 d3 d4 d5 d6 = some (u0, u1, u2, u3, u4, u5, u6)) (p4 : mailbox_Apply.f k u0 u1 u2 u3 u4 c0 c1 c2 c3 c4 c5 c6 = some (v0, v1, v2, v3, v4, v5, v6)) (q1 : (r5 != 0) = false) (q2 : (s5 != 0) = false) (q3 : (u5 != 0) = false) (q4 : (v5 != 0) = false) (m1 m2 : Int) (n1 n2 : List (S64)) (hs : (s1 == v1) = true) (w1 : posthouseref8_ViewOf.f k s0 s1 s2 s3 s4 = some (m1, n1)) (w2 : posthouseref8_ViewOf.f k v0 v1 v2 v3 v4 = some (m2, n2)) (w3 : posthouseref8_SameSeen.f k n1 n2 = some true) :
    Calls Tryd.prog 5 #[.agg #[.int .i64 a0, .int .i64 a1, .int .i64 a2, .slice aA a3.length aa, .slice aB a4.length ab], .agg #[.int .i64 c0, .int .i64 c1, .int .i64 c2, .int .i64 c3, .int .i64 c4, .slice cA c5.length ca, .slice cB c6.length cb], .agg #[.int .i64 d0, .int .i64 d1, .int .i64 d2, .int .i64 d3, .int .i64 d4, .slice dA d5.length da, .slice dB d6.length db]] w fun e w' => e = .returned (.bool true) ∧ Below w.heap.size w w' := by
  have P1 := Aside0.mk p1
  have P2 := Aside0.mk p2
  have P3 := Aside0.mk p3
  have P4 := Aside0.mk p4
  have W1 := Aside0.mk w1
  have W2 := Aside0.mk w2
  have W3 := Aside0.mk w3
  clear p1 p2 p3 p4 w1 w2 w3
  have hfld := fieldView_1
  have HA3 := Aside0.mk ha3
  have HA4 := Aside0.mk ha4
  have HC5 := Aside0.mk hc5
  have HC6 := Aside0.mk hc6
  have HD5 := Aside0.mk hd5
  have HD6 := Aside0.mk hd6
  have HBX := Aside0.mk hbx
  clear ha3 ha4 hc5 hc6 hd5 hd6 hbx
  have HB := Aside0.mk (below_alloc (below_alloc (below_alloc (Below.refl w.heap.size w) (.cells #[.int .i64 a0, .int .i64 a1, .int .i64 a2, .slice aA a3.length aa, .slice aB a4.length ab] 25)) (.cells #[.int .i64 c0, .int .i64 c1, .int .i64 c2, .int .i64 c3, .int .i64 c4, .slice cA c5.length ca, .slice cB c6.length cb] 31)) (.cells #[.int .i64 d0, .int .i64 d1, .int .i64 d2, .int .i64 d3, .int .i64 d4, .slice dA d5.length da, .slice dB d6.length db] 31))
  have HA := Aside0.mk (blk_later (blk_later (blk_at (w := w) (.cells #[.int .i64 a0, .int .i64 a1, .int .i64 a2, .slice aA a3.length aa, .slice aB a4.length ab] 25)) (.cells #[.int .i64 c0, .int .i64 c1, .int .i64 c2, .int .i64 c3, .int .i64 c4, .slice cA c5.length ca, .slice cB c6.length cb] 31)) (.cells #[.int .i64 d0, .int .i64 d1, .int .i64 d2, .int .i64 d3, .int .i64 d4, .slice dA d5.length da, .slice dB d6.length db] 31))
  have HC := Aside0.mk (blk_later (blk_at1 (w := w) (.cells #[.int .i64 a0, .int .i64 a1, .int .i64 a2, .slice aA a3.length aa, .slice aB a4.length ab] 25) (.cells #[.int .i64 c0, .int .i64 c1, .int .i64 c2, .int .i64 c3, .int .i64 c4, .slice cA c5.length ca, .slice cB c6.length cb] 31)) (.cells #[.int .i64 d0, .int .i64 d1, .int .i64 d2, .int .i64 d3, .int .i64 d4, .slice dA d5.length da, .slice dB d6.length db] 31))
  have HD := Aside0.mk (blk_at2 (w := w) (.cells #[.int .i64 a0, .int .i64 a1, .int .i64 a2, .slice aA a3.length aa, .slice aB a4.length ab] 25) (.cells #[.int .i64 c0, .int .i64 c1, .int .i64 c2, .int .i64 c3, .int .i64 c4, .slice cA c5.length ca, .slice cB c6.length cb] 31) (.cells #[.int .i64 d0, .int .i64 d1, .int .i64 d2, .int .i64 d3, .int .i64 d4, .slice dA d5.length da, .slice dB d6.length db] 31))
  go_enter Tryd.func5, Tryd.ntmps5
  go_wp2_with fail
  refine (HBX.out _).mono ?_
  rintro e w1 ⟨rfl, hb⟩
  replace HA := Aside0.mk (blk_call HA.out hb)
  replace HC := Aside0.mk (blk_call HC.out hb)
  replace HD := Aside0.mk (blk_call HD.out hb)
  replace HB := Aside0.mk (below_step HB.out hb)
  clear hb
  have kHA := bc0 HA.out
  have fHA := bf0 HA.out
  have yHA := blk_lt HA.out
  have kHC := bc0 HC.out
  have fHC := bf0 HC.out
  have yHC := blk_lt HC.out
  have kHD := bc0 HD.out
  have fHD := bf0 HD.out
  have yHD := blk_lt HD.out
  go_wp2_with fail
  clear kHA fHA yHA kHC fHC yHC kHD fHD yHD
  refine (mailbox_Apply.calls k a0 a1 a2 aA aa a3 aB ab a4 c0 c1 c2 c3 c4 cA ca c5 cB cb c6 r0 r1 r2 r3 r4 r5 r6 _ (Kd.C_below HA3.out HB.out) ea3 (Kd.C_below HA4.out HB.out) ea4 (Kd.C_below HC5.out HB.out) ec5 (Kd.C_below HC6.out HB.out) ec6 P1.out).mono ?_
  rintro e x1 ⟨v3_, v4_, rfl, hv3_, hv4_, hb⟩
  obtain ⟨rA, ra, rfl⟩ := Kd.V_slice hv3_
  obtain ⟨rB, rb, rfl⟩ := Kd.V_slice hv4_
  have HrV := Aside0.mk hv3_
  have HrW := Aside0.mk hv4_
  clear hv3_ hv4_
  replace HA := Aside0.mk (blk_call HA.out hb)
  replace HC := Aside0.mk (blk_call HC.out hb)
  replace HD := Aside0.mk (blk_call HD.out hb)
  replace HB := Aside0.mk (below_step HB.out hb)
  clear hb
  have kHA := bc0 HA.out
  have fHA := bf0 HA.out
  have yHA := blk_lt HA.out
  have kHC := bc0 HC.out
  have fHC := bf0 HC.out
  have yHC := blk_lt HC.out
  have kHD := bc0 HD.out
  have fHD := bf0 HD.out
  have yHD := blk_lt HD.out
  go_wp2_with fail
  clear kHA fHA yHA kHC fHC yHC kHD fHD yHD
  have l1_t7 := blk_lt HA.out
  have l2_t7 := blk_lt HC.out
  have l3_t7 := blk_lt HD.out
  replace HA := Aside0.mk (blk_later HA.out (.cells #[.int .i64 r0, .int .i64 r1, .int .i64 r2, .slice rA r3.length ra, .slice rB r4.length rb] 25))
  replace HC := Aside0.mk (blk_later HC.out (.cells #[.int .i64 r0, .int .i64 r1, .int .i64 r2, .slice rA r3.length ra, .slice rB r4.length rb] 25))
  replace HD := Aside0.mk (blk_later HD.out (.cells #[.int .i64 r0, .int .i64 r1, .int .i64 r2, .slice rA r3.length ra, .slice rB r4.length rb] 25))
  replace HrV := Aside0.mk (Kd.V_alloc HrV.out (.cells #[.int .i64 r0, .int .i64 r1, .int .i64 r2, .slice rA r3.length ra, .slice rB r4.length rb] 25))
  replace HrW := Aside0.mk (Kd.V_alloc HrW.out (.cells #[.int .i64 r0, .int .i64 r1, .int .i64 r2, .slice rA r3.length ra, .slice rB r4.length rb] 25))
  replace HB := Aside0.mk (below_alloc HB.out (.cells #[.int .i64 r0, .int .i64 r1, .int .i64 r2, .slice rA r3.length ra, .slice rB r4.length rb] 25))
  have HM := Aside0.mk (blk_at (w := x1) (.cells #[.int .i64 r0, .int .i64 r1, .int .i64 r2, .slice rA r3.length ra, .slice rB r4.length rb] 25))
  have hs_t7 : (x1.alloc (.cells #[.int .i64 r0, .int .i64 r1, .int .i64 r2, .slice rA r3.length ra, .slice rB r4.length rb] 25)).heap.size = x1.heap.size + 1 := by simp
  generalize x1.alloc (.cells #[.int .i64 r0, .int .i64 r1, .int .i64 r2, .slice rA r3.length ra, .slice rB r4.length rb] 25) = X2 at *
  generalize x1.heap.size = t7 at *
  have l4_t71 := blk_lt HA.out
  have l5_t71 := blk_lt HC.out
  have l6_t71 := blk_lt HD.out
  have l7_t71 := blk_lt HM.out
  replace HA := Aside0.mk (blk_later HA.out (.cells #[.int .i64 r5, .int .i64 r6] 33))
  replace HC := Aside0.mk (blk_later HC.out (.cells #[.int .i64 r5, .int .i64 r6] 33))
  replace HD := Aside0.mk (blk_later HD.out (.cells #[.int .i64 r5, .int .i64 r6] 33))
  replace HM := Aside0.mk (blk_later HM.out (.cells #[.int .i64 r5, .int .i64 r6] 33))
  replace HrV := Aside0.mk (Kd.V_alloc HrV.out (.cells #[.int .i64 r5, .int .i64 r6] 33))
  replace HrW := Aside0.mk (Kd.V_alloc HrW.out (.cells #[.int .i64 r5, .int .i64 r6] 33))
  replace HB := Aside0.mk (below_alloc HB.out (.cells #[.int .i64 r5, .int .i64 r6] 33))
  have HE1 := Aside0.mk (blk_at (w := X2) (.cells #[.int .i64 r5, .int .i64 r6] 33))
  rw [hs_t7] at HE1 l4_t71 l5_t71 l6_t71 l7_t71
  clear hs_t7
  generalize X2.alloc (.cells #[.int .i64 r5, .int .i64 r6] 33) = X3 at *
  have l8_cs := blk_lt HA.out
  have l9_cs := blk_lt HC.out
  have l10_cs := blk_lt HD.out
  have l11_cs := blk_lt HM.out
  have l12_cs := blk_lt HE1.out
  refine (mailbox_Apply.calls k r0 r1 r2 rA ra r3 rB rb r4 d0 d1 d2 d3 d4 dA da d5 dB db d6 s0 s1 s2 s3 s4 s5 s6 _ (Kd.F_now (Kd.V_F HrV.out)) (Kd.V_at HrV.out).2.1 (Kd.F_now (Kd.V_F HrW.out)) (Kd.V_at HrW.out).2.1 (Kd.C_below HD5.out HB.out) ed5 (Kd.C_below HD6.out HB.out) ed6 P2.out).mono ?_
  rintro e x4 ⟨v3_, v4_, rfl, hv3_, hv4_, hb⟩
  obtain ⟨sA, sa, rfl⟩ := Kd.V_slice hv3_
  obtain ⟨sB, sb, rfl⟩ := Kd.V_slice hv4_
  have HsV := Aside0.mk hv3_
  have HsW := Aside0.mk hv4_
  clear hv3_ hv4_
  have hz_s := below_size hb
  replace HA := Aside0.mk (blk_call HA.out hb)
  replace HC := Aside0.mk (blk_call HC.out hb)
  replace HD := Aside0.mk (blk_call HD.out hb)
  replace HM := Aside0.mk (blk_call HM.out hb)
  replace HE1 := Aside0.mk (blk_call HE1.out hb)
  replace HrV := Aside0.mk (Kd.V_below HrV.out hb)
  replace HrW := Aside0.mk (Kd.V_below HrW.out hb)
  replace HB := Aside0.mk (below_step HB.out hb)
  clear hb
  clear HrV HrW
  have kHM := bc0 HM.out
  have fHM := bf0 HM.out
  have yHM := blk_lt HM.out
  have kHA := bc0 HA.out
  have fHA := bf0 HA.out
  have yHA := blk_lt HA.out
  have kHD := bc0 HD.out
  have fHD := bf0 HD.out
  have yHD := blk_lt HD.out
  go_wp2_with fail
  clear kHM fHM yHM kHA fHA yHA kHD fHD yHD
  replace HA := Aside0.mk (blk_far (p := ⟨t7, 4, none⟩) (blk_far (p := ⟨t7, 3, none⟩) (blk_far (p := ⟨t7, 2, none⟩) (blk_far (p := ⟨t7, 1, none⟩) (blk_far (p := ⟨t7, 0, none⟩) HA.out (show w.heap.size ≠ t7 by omega) (.int .i64 s0)) (show w.heap.size ≠ t7 by omega) (.int .i64 s1)) (show w.heap.size ≠ t7 by omega) (.int .i64 s2)) (show w.heap.size ≠ t7 by omega) (.slice sA s3.length sa)) (show w.heap.size ≠ t7 by omega) (.slice sB s4.length sb))
  replace HC := Aside0.mk (blk_far (p := ⟨t7, 4, none⟩) (blk_far (p := ⟨t7, 3, none⟩) (blk_far (p := ⟨t7, 2, none⟩) (blk_far (p := ⟨t7, 1, none⟩) (blk_far (p := ⟨t7, 0, none⟩) HC.out (show w.heap.size + 1 ≠ t7 by omega) (.int .i64 s0)) (show w.heap.size + 1 ≠ t7 by omega) (.int .i64 s1)) (show w.heap.size + 1 ≠ t7 by omega) (.int .i64 s2)) (show w.heap.size + 1 ≠ t7 by omega) (.slice sA s3.length sa)) (show w.heap.size + 1 ≠ t7 by omega) (.slice sB s4.length sb))
  replace HD := Aside0.mk (blk_far (p := ⟨t7, 4, none⟩) (blk_far (p := ⟨t7, 3, none⟩) (blk_far (p := ⟨t7, 2, none⟩) (blk_far (p := ⟨t7, 1, none⟩) (blk_far (p := ⟨t7, 0, none⟩) HD.out (show w.heap.size + 1 + 1 ≠ t7 by omega) (.int .i64 s0)) (show w.heap.size + 1 + 1 ≠ t7 by omega) (.int .i64 s1)) (show w.heap.size + 1 + 1 ≠ t7 by omega) (.int .i64 s2)) (show w.heap.size + 1 + 1 ≠ t7 by omega) (.slice sA s3.length sa)) (show w.heap.size + 1 + 1 ≠ t7 by omega) (.slice sB s4.length sb))
  replace HM : Aside0 (((((((x4).setCell ⟨t7, 0, none⟩ (.int .i64 s0)).setCell ⟨t7, 1, none⟩ (.int .i64 s1)).setCell ⟨t7, 2, none⟩ (.int .i64 s2)).setCell ⟨t7, 3, none⟩ (.slice sA s3.length sa)).setCell ⟨t7, 4, none⟩ (.slice sB s4.length sb)).heap[t7]? = some (.cells #[(.int .i64 s0), (.int .i64 s1), (.int .i64 s2), (.slice sA s3.length sa), (.slice sB s4.length sb)] 25 (0, 0))) := Aside0.mk (blk_put (blk_put (blk_put (blk_put (blk_put HM.out 0 (.int .i64 s0) rfl) 1 (.int .i64 s1) rfl) 2 (.int .i64 s2) rfl) 3 (.slice sA s3.length sa) rfl) 4 (.slice sB s4.length sb) rfl)
  replace HE1 := Aside0.mk (blk_far (p := ⟨t7, 4, none⟩) (blk_far (p := ⟨t7, 3, none⟩) (blk_far (p := ⟨t7, 2, none⟩) (blk_far (p := ⟨t7, 1, none⟩) (blk_far (p := ⟨t7, 0, none⟩) HE1.out (show t7 + 1 ≠ t7 by omega) (.int .i64 s0)) (show t7 + 1 ≠ t7 by omega) (.int .i64 s1)) (show t7 + 1 ≠ t7 by omega) (.int .i64 s2)) (show t7 + 1 ≠ t7 by omega) (.slice sA s3.length sa)) (show t7 + 1 ≠ t7 by omega) (.slice sB s4.length sb))
  replace HsV := Aside0.mk (Kd.V_far (p := ⟨t7, 4, none⟩) (Kd.V_far (p := ⟨t7, 3, none⟩) (Kd.V_far (p := ⟨t7, 2, none⟩) (Kd.V_far (p := ⟨t7, 1, none⟩) (Kd.V_far (p := ⟨t7, 0, none⟩) HsV.out (fun k_ (hk_ : X3.heap.size ≤ k_) => by show k_ ≠ t7; omega) (.int .i64 s0)) (fun k_ (hk_ : X3.heap.size ≤ k_) => by show k_ ≠ t7; omega) (.int .i64 s1)) (fun k_ (hk_ : X3.heap.size ≤ k_) => by show k_ ≠ t7; omega) (.int .i64 s2)) (fun k_ (hk_ : X3.heap.size ≤ k_) => by show k_ ≠ t7; omega) (.slice sA s3.length sa)) (fun k_ (hk_ : X3.heap.size ≤ k_) => by show k_ ≠ t7; omega) (.slice sB s4.length sb))
  replace HsW := Aside0.mk (Kd.V_far (p := ⟨t7, 4, none⟩) (Kd.V_far (p := ⟨t7, 3, none⟩) (Kd.V_far (p := ⟨t7, 2, none⟩) (Kd.V_far (p := ⟨t7, 1, none⟩) (Kd.V_far (p := ⟨t7, 0, none⟩) HsW.out (fun k_ (hk_ : X3.heap.size ≤ k_) => by show k_ ≠ t7; omega) (.int .i64 s0)) (fun k_ (hk_ : X3.heap.size ≤ k_) => by show k_ ≠ t7; omega) (.int .i64 s1)) (fun k_ (hk_ : X3.heap.size ≤ k_) => by show k_ ≠ t7; omega) (.int .i64 s2)) (fun k_ (hk_ : X3.heap.size ≤ k_) => by show k_ ≠ t7; omega) (.slice sA s3.length sa)) (fun k_ (hk_ : X3.heap.size ≤ k_) => by show k_ ≠ t7; omega) (.slice sB s4.length sb))
  replace HB := Aside0.mk (below_set (j := 4) (v := (.slice sB s4.length sb)) (below_set (j := 3) (v := (.slice sA s3.length sa)) (below_set (j := 2) (v := (.int .i64 s2)) (below_set (j := 1) (v := (.int .i64 s1)) (below_set (j := 0) (v := (.int .i64 s0)) HB.out (show w.heap.size ≤ t7 by omega)) (show w.heap.size ≤ t7 by omega)) (show w.heap.size ≤ t7 by omega)) (show w.heap.size ≤ t7 by omega)) (show w.heap.size ≤ t7 by omega))
  have hp_s : ((((((x4).setCell ⟨t7, 0, none⟩ (.int .i64 s0)).setCell ⟨t7, 1, none⟩ (.int .i64 s1)).setCell ⟨t7, 2, none⟩ (.int .i64 s2)).setCell ⟨t7, 3, none⟩ (.slice sA s3.length sa)).setCell ⟨t7, 4, none⟩ (.slice sB s4.length sb)).heap.size = x4.heap.size := by simp
  generalize (((((x4).setCell ⟨t7, 0, none⟩ (.int .i64 s0)).setCell ⟨t7, 1, none⟩ (.int .i64 s1)).setCell ⟨t7, 2, none⟩ (.int .i64 s2)).setCell ⟨t7, 3, none⟩ (.slice sA s3.length sa)).setCell ⟨t7, 4, none⟩ (.slice sB s4.length sb) = X5 at *
  have l13_t9 := blk_lt HA.out
  have l14_t9 := blk_lt HC.out
  have l15_t9 := blk_lt HD.out
  have l16_t9 := blk_lt HM.out
  have l17_t9 := blk_lt HE1.out
  replace HA := Aside0.mk (blk_later HA.out (.cells #[.int .i64 s5, .int .i64 s6] 33))
  replace HC := Aside0.mk (blk_later HC.out (.cells #[.int .i64 s5, .int .i64 s6] 33))
  replace HD := Aside0.mk (blk_later HD.out (.cells #[.int .i64 s5, .int .i64 s6] 33))
  replace HM := Aside0.mk (blk_later HM.out (.cells #[.int .i64 s5, .int .i64 s6] 33))
  replace HE1 := Aside0.mk (blk_later HE1.out (.cells #[.int .i64 s5, .int .i64 s6] 33))
  replace HsV := Aside0.mk (Kd.V_alloc HsV.out (.cells #[.int .i64 s5, .int .i64 s6] 33))
  replace HsW := Aside0.mk (Kd.V_alloc HsW.out (.cells #[.int .i64 s5, .int .i64 s6] 33))
  replace HB := Aside0.mk (below_alloc HB.out (.cells #[.int .i64 s5, .int .i64 s6] 33))
  have HE2 := Aside0.mk (blk_at (w := X5) (.cells #[.int .i64 s5, .int .i64 s6] 33))
  rw [hp_s] at HE2 l13_t9 l14_t9 l15_t9 l16_t9 l17_t9
  clear hp_s
  generalize X5.alloc (.cells #[.int .i64 s5, .int .i64 s6] 33) = X6 at *
  generalize x4.heap.size = t9 at *
  have l18_cu := blk_lt HA.out
  have l19_cu := blk_lt HC.out
  have l20_cu := blk_lt HD.out
  have l21_cu := blk_lt HM.out
  have l22_cu := blk_lt HE1.out
  have l23_cu := blk_lt HE2.out
  refine (mailbox_Apply.calls k a0 a1 a2 aA aa a3 aB ab a4 d0 d1 d2 d3 d4 dA da d5 dB db d6 u0 u1 u2 u3 u4 u5 u6 _ (Kd.C_below HA3.out HB.out) ea3 (Kd.C_below HA4.out HB.out) ea4 (Kd.C_below HD5.out HB.out) ed5 (Kd.C_below HD6.out HB.out) ed6 P3.out).mono ?_
  rintro e x7 ⟨v3_, v4_, rfl, hv3_, hv4_, hb⟩
  obtain ⟨uA, ua, rfl⟩ := Kd.V_slice hv3_
  obtain ⟨uB, ub, rfl⟩ := Kd.V_slice hv4_
  have HuV := Aside0.mk hv3_
  have HuW := Aside0.mk hv4_
  clear hv3_ hv4_
  have hz_u := below_size hb
  replace HA := Aside0.mk (blk_call HA.out hb)
  replace HC := Aside0.mk (blk_call HC.out hb)
  replace HD := Aside0.mk (blk_call HD.out hb)
  replace HM := Aside0.mk (blk_call HM.out hb)
  replace HE1 := Aside0.mk (blk_call HE1.out hb)
  replace HE2 := Aside0.mk (blk_call HE2.out hb)
  replace HsV := Aside0.mk (Kd.V_below HsV.out hb)
  replace HsW := Aside0.mk (Kd.V_below HsW.out hb)
  replace HB := Aside0.mk (below_step HB.out hb)
  clear hb
  have kHA := bc0 HA.out
  have fHA := bf0 HA.out
  have yHA := blk_lt HA.out
  have kHC := bc0 HC.out
  have fHC := bf0 HC.out
  have yHC := blk_lt HC.out
  have kHD := bc0 HD.out
  have fHD := bf0 HD.out
  have yHD := blk_lt HD.out
  go_wp2_with fail
  clear kHA fHA yHA kHC fHC yHC kHD fHD yHD
  have l24_t10 := blk_lt HA.out
  have l25_t10 := blk_lt HC.out
  have l26_t10 := blk_lt HD.out
  have l27_t10 := blk_lt HM.out
  have l28_t10 := blk_lt HE1.out
  have l29_t10 := blk_lt HE2.out
  replace HsV := Aside0.mk (Kd.V_mono (ok' := fun k_ => X3.heap.size ≤ k_ ∧ k_ ≠ x7.heap.size) (Kd.V_elderB HsV.out x7.heap.size (Nat.le_refl _)) (fun k_ hk_ => by have h1_ := hk_.1; have h2_ := hk_.2; omega))
  replace HsW := Aside0.mk (Kd.V_mono (ok' := fun k_ => X3.heap.size ≤ k_ ∧ k_ ≠ x7.heap.size) (Kd.V_elderB HsW.out x7.heap.size (Nat.le_refl _)) (fun k_ hk_ => by have h1_ := hk_.1; have h2_ := hk_.2; omega))
  replace HuV := Aside0.mk (Kd.V_mono (ok' := fun k_ => X6.heap.size ≤ k_ ∧ k_ ≠ x7.heap.size) (Kd.V_elderB HuV.out x7.heap.size (Nat.le_refl _)) (fun k_ hk_ => by have h1_ := hk_.1; have h2_ := hk_.2; omega))
  replace HuW := Aside0.mk (Kd.V_mono (ok' := fun k_ => X6.heap.size ≤ k_ ∧ k_ ≠ x7.heap.size) (Kd.V_elderB HuW.out x7.heap.size (Nat.le_refl _)) (fun k_ hk_ => by have h1_ := hk_.1; have h2_ := hk_.2; omega))
  replace HA := Aside0.mk (blk_later HA.out (.cells #[.int .i64 u0, .int .i64 u1, .int .i64 u2, .slice uA u3.length ua, .slice uB u4.length ub] 25))
  replace HC := Aside0.mk (blk_later HC.out (.cells #[.int .i64 u0, .int .i64 u1, .int .i64 u2, .slice uA u3.length ua, .slice uB u4.length ub] 25))
  replace HD := Aside0.mk (blk_later HD.out (.cells #[.int .i64 u0, .int .i64 u1, .int .i64 u2, .slice uA u3.length ua, .slice uB u4.length ub] 25))
  replace HM := Aside0.mk (blk_later HM.out (.cells #[.int .i64 u0, .int .i64 u1, .int .i64 u2, .slice uA u3.length ua, .slice uB u4.length ub] 25))
  replace HE1 := Aside0.mk (blk_later HE1.out (.cells #[.int .i64 u0, .int .i64 u1, .int .i64 u2, .slice uA u3.length ua, .slice uB u4.length ub] 25))
  replace HE2 := Aside0.mk (blk_later HE2.out (.cells #[.int .i64 u0, .int .i64 u1, .int .i64 u2, .slice uA u3.length ua, .slice uB u4.length ub] 25))
  replace HsV := Aside0.mk (Kd.V_alloc HsV.out (.cells #[.int .i64 u0, .int .i64 u1, .int .i64 u2, .slice uA u3.length ua, .slice uB u4.length ub] 25))
  replace HsW := Aside0.mk (Kd.V_alloc HsW.out (.cells #[.int .i64 u0, .int .i64 u1, .int .i64 u2, .slice uA u3.length ua, .slice uB u4.length ub] 25))
  replace HuV := Aside0.mk (Kd.V_alloc HuV.out (.cells #[.int .i64 u0, .int .i64 u1, .int .i64 u2, .slice uA u3.length ua, .slice uB u4.length ub] 25))
  replace HuW := Aside0.mk (Kd.V_alloc HuW.out (.cells #[.int .i64 u0, .int .i64 u1, .int .i64 u2, .slice uA u3.length ua, .slice uB u4.length ub] 25))
  replace HB := Aside0.mk (below_alloc HB.out (.cells #[.int .i64 u0, .int .i64 u1, .int .i64 u2, .slice uA u3.length ua, .slice uB u4.length ub] 25))
  have HN := Aside0.mk (blk_at (w := x7) (.cells #[.int .i64 u0, .int .i64 u1, .int .i64 u2, .slice uA u3.length ua, .slice uB u4.length ub] 25))
  have hs_t10 : (x7.alloc (.cells #[.int .i64 u0, .int .i64 u1, .int .i64 u2, .slice uA u3.length ua, .slice uB u4.length ub] 25)).heap.size = x7.heap.size + 1 := by simp
  generalize x7.alloc (.cells #[.int .i64 u0, .int .i64 u1, .int .i64 u2, .slice uA u3.length ua, .slice uB u4.length ub] 25) = X8 at *
  generalize x7.heap.size = t10 at *
  have l30_t101 := blk_lt HA.out
  have l31_t101 := blk_lt HC.out
  have l32_t101 := blk_lt HD.out
  have l33_t101 := blk_lt HM.out
  have l34_t101 := blk_lt HE1.out
  have l35_t101 := blk_lt HE2.out
  have l36_t101 := blk_lt HN.out
  replace HA := Aside0.mk (blk_later HA.out (.cells #[.int .i64 u5, .int .i64 u6] 33))
  replace HC := Aside0.mk (blk_later HC.out (.cells #[.int .i64 u5, .int .i64 u6] 33))
  replace HD := Aside0.mk (blk_later HD.out (.cells #[.int .i64 u5, .int .i64 u6] 33))
  replace HM := Aside0.mk (blk_later HM.out (.cells #[.int .i64 u5, .int .i64 u6] 33))
  replace HE1 := Aside0.mk (blk_later HE1.out (.cells #[.int .i64 u5, .int .i64 u6] 33))
  replace HE2 := Aside0.mk (blk_later HE2.out (.cells #[.int .i64 u5, .int .i64 u6] 33))
  replace HN := Aside0.mk (blk_later HN.out (.cells #[.int .i64 u5, .int .i64 u6] 33))
  replace HsV := Aside0.mk (Kd.V_alloc HsV.out (.cells #[.int .i64 u5, .int .i64 u6] 33))
  replace HsW := Aside0.mk (Kd.V_alloc HsW.out (.cells #[.int .i64 u5, .int .i64 u6] 33))
  replace HuV := Aside0.mk (Kd.V_alloc HuV.out (.cells #[.int .i64 u5, .int .i64 u6] 33))
  replace HuW := Aside0.mk (Kd.V_alloc HuW.out (.cells #[.int .i64 u5, .int .i64 u6] 33))
  replace HB := Aside0.mk (below_alloc HB.out (.cells #[.int .i64 u5, .int .i64 u6] 33))
  have HE3 := Aside0.mk (blk_at (w := X8) (.cells #[.int .i64 u5, .int .i64 u6] 33))
  rw [hs_t10] at HE3 l30_t101 l31_t101 l32_t101 l33_t101 l34_t101 l35_t101 l36_t101
  clear hs_t10
  generalize X8.alloc (.cells #[.int .i64 u5, .int .i64 u6] 33) = X9 at *
  have l37_cv := blk_lt HA.out
  have l38_cv := blk_lt HC.out
  have l39_cv := blk_lt HD.out
  have l40_cv := blk_lt HM.out
  have l41_cv := blk_lt HE1.out
  have l42_cv := blk_lt HE2.out
  have l43_cv := blk_lt HN.out
  have l44_cv := blk_lt HE3.out
  refine (mailbox_Apply.calls k u0 u1 u2 uA ua u3 uB ub u4 c0 c1 c2 c3 c4 cA ca c5 cB cb c6 v0 v1 v2 v3 v4 v5 v6 _ (Kd.F_now (Kd.V_F HuV.out)) (Kd.V_at HuV.out).2.1 (Kd.F_now (Kd.V_F HuW.out)) (Kd.V_at HuW.out).2.1 (Kd.C_below HC5.out HB.out) ec5 (Kd.C_below HC6.out HB.out) ec6 P4.out).mono ?_
  rintro e x10 ⟨v3_, v4_, rfl, hv3_, hv4_, hb⟩
  obtain ⟨vA, va, rfl⟩ := Kd.V_slice hv3_
  obtain ⟨vB, vb, rfl⟩ := Kd.V_slice hv4_
  have HvV := Aside0.mk hv3_
  have HvW := Aside0.mk hv4_
  clear hv3_ hv4_
  have hz_v := below_size hb
  replace HA := Aside0.mk (blk_call HA.out hb)
  replace HC := Aside0.mk (blk_call HC.out hb)
  replace HD := Aside0.mk (blk_call HD.out hb)
  replace HM := Aside0.mk (blk_call HM.out hb)
  replace HE1 := Aside0.mk (blk_call HE1.out hb)
  replace HE2 := Aside0.mk (blk_call HE2.out hb)
  replace HN := Aside0.mk (blk_call HN.out hb)
  replace HE3 := Aside0.mk (blk_call HE3.out hb)
  replace HsV := Aside0.mk (Kd.V_below HsV.out hb)
  replace HsW := Aside0.mk (Kd.V_below HsW.out hb)
  replace HuV := Aside0.mk (Kd.V_below HuV.out hb)
  replace HuW := Aside0.mk (Kd.V_below HuW.out hb)
  replace HB := Aside0.mk (below_step HB.out hb)
  clear hb
  clear HuV HuW
  have kHN := bc0 HN.out
  have fHN := bf0 HN.out
  have yHN := blk_lt HN.out
  have kHE1 := bc0 HE1.out
  have fHE1 := bf0 HE1.out
  have yHE1 := blk_lt HE1.out
  have kHE2 := bc0 HE2.out
  have fHE2 := bf0 HE2.out
  have yHE2 := blk_lt HE2.out
  have kHE3 := bc0 HE3.out
  have fHE3 := bf0 HE3.out
  have yHE3 := blk_lt HE3.out
  go_wp2
  clear kHN fHN yHN kHE1 fHE1 yHE1 kHE2 fHE2 yHE2 kHE3 fHE3 yHE3
  replace HA := Aside0.mk (blk_far (p := ⟨t10, 4, none⟩) (blk_far (p := ⟨t10, 3, none⟩) (blk_far (p := ⟨t10, 2, none⟩) (blk_far (p := ⟨t10, 1, none⟩) (blk_far (p := ⟨t10, 0, none⟩) HA.out (show w.heap.size ≠ t10 by omega) (.int .i64 v0)) (show w.heap.size ≠ t10 by omega) (.int .i64 v1)) (show w.heap.size ≠ t10 by omega) (.int .i64 v2)) (show w.heap.size ≠ t10 by omega) (.slice vA v3.length va)) (show w.heap.size ≠ t10 by omega) (.slice vB v4.length vb))
  replace HC := Aside0.mk (blk_far (p := ⟨t10, 4, none⟩) (blk_far (p := ⟨t10, 3, none⟩) (blk_far (p := ⟨t10, 2, none⟩) (blk_far (p := ⟨t10, 1, none⟩) (blk_far (p := ⟨t10, 0, none⟩) HC.out (show w.heap.size + 1 ≠ t10 by omega) (.int .i64 v0)) (show w.heap.size + 1 ≠ t10 by omega) (.int .i64 v1)) (show w.heap.size + 1 ≠ t10 by omega) (.int .i64 v2)) (show w.heap.size + 1 ≠ t10 by omega) (.slice vA v3.length va)) (show w.heap.size + 1 ≠ t10 by omega) (.slice vB v4.length vb))
  replace HD := Aside0.mk (blk_far (p := ⟨t10, 4, none⟩) (blk_far (p := ⟨t10, 3, none⟩) (blk_far (p := ⟨t10, 2, none⟩) (blk_far (p := ⟨t10, 1, none⟩) (blk_far (p := ⟨t10, 0, none⟩) HD.out (show w.heap.size + 1 + 1 ≠ t10 by omega) (.int .i64 v0)) (show w.heap.size + 1 + 1 ≠ t10 by omega) (.int .i64 v1)) (show w.heap.size + 1 + 1 ≠ t10 by omega) (.int .i64 v2)) (show w.heap.size + 1 + 1 ≠ t10 by omega) (.slice vA v3.length va)) (show w.heap.size + 1 + 1 ≠ t10 by omega) (.slice vB v4.length vb))
  replace HM := Aside0.mk (blk_far (p := ⟨t10, 4, none⟩) (blk_far (p := ⟨t10, 3, none⟩) (blk_far (p := ⟨t10, 2, none⟩) (blk_far (p := ⟨t10, 1, none⟩) (blk_far (p := ⟨t10, 0, none⟩) HM.out (show t7 ≠ t10 by omega) (.int .i64 v0)) (show t7 ≠ t10 by omega) (.int .i64 v1)) (show t7 ≠ t10 by omega) (.int .i64 v2)) (show t7 ≠ t10 by omega) (.slice vA v3.length va)) (show t7 ≠ t10 by omega) (.slice vB v4.length vb))
  replace HE1 := Aside0.mk (blk_far (p := ⟨t10, 4, none⟩) (blk_far (p := ⟨t10, 3, none⟩) (blk_far (p := ⟨t10, 2, none⟩) (blk_far (p := ⟨t10, 1, none⟩) (blk_far (p := ⟨t10, 0, none⟩) HE1.out (show t7 + 1 ≠ t10 by omega) (.int .i64 v0)) (show t7 + 1 ≠ t10 by omega) (.int .i64 v1)) (show t7 + 1 ≠ t10 by omega) (.int .i64 v2)) (show t7 + 1 ≠ t10 by omega) (.slice vA v3.length va)) (show t7 + 1 ≠ t10 by omega) (.slice vB v4.length vb))
  replace HE2 := Aside0.mk (blk_far (p := ⟨t10, 4, none⟩) (blk_far (p := ⟨t10, 3, none⟩) (blk_far (p := ⟨t10, 2, none⟩) (blk_far (p := ⟨t10, 1, none⟩) (blk_far (p := ⟨t10, 0, none⟩) HE2.out (show t9 ≠ t10 by omega) (.int .i64 v0)) (show t9 ≠ t10 by omega) (.int .i64 v1)) (show t9 ≠ t10 by omega) (.int .i64 v2)) (show t9 ≠ t10 by omega) (.slice vA v3.length va)) (show t9 ≠ t10 by omega) (.slice vB v4.length vb))
  replace HN : Aside0 (((((((x10).setCell ⟨t10, 0, none⟩ (.int .i64 v0)).setCell ⟨t10, 1, none⟩ (.int .i64 v1)).setCell ⟨t10, 2, none⟩ (.int .i64 v2)).setCell ⟨t10, 3, none⟩ (.slice vA v3.length va)).setCell ⟨t10, 4, none⟩ (.slice vB v4.length vb)).heap[t10]? = some (.cells #[(.int .i64 v0), (.int .i64 v1), (.int .i64 v2), (.slice vA v3.length va), (.slice vB v4.length vb)] 25 (0, 0))) := Aside0.mk (blk_put (blk_put (blk_put (blk_put (blk_put HN.out 0 (.int .i64 v0) rfl) 1 (.int .i64 v1) rfl) 2 (.int .i64 v2) rfl) 3 (.slice vA v3.length va) rfl) 4 (.slice vB v4.length vb) rfl)
  replace HE3 := Aside0.mk (blk_far (p := ⟨t10, 4, none⟩) (blk_far (p := ⟨t10, 3, none⟩) (blk_far (p := ⟨t10, 2, none⟩) (blk_far (p := ⟨t10, 1, none⟩) (blk_far (p := ⟨t10, 0, none⟩) HE3.out (show t10 + 1 ≠ t10 by omega) (.int .i64 v0)) (show t10 + 1 ≠ t10 by omega) (.int .i64 v1)) (show t10 + 1 ≠ t10 by omega) (.int .i64 v2)) (show t10 + 1 ≠ t10 by omega) (.slice vA v3.length va)) (show t10 + 1 ≠ t10 by omega) (.slice vB v4.length vb))
  replace HsV := Aside0.mk (Kd.V_far (p := ⟨t10, 4, none⟩) (Kd.V_far (p := ⟨t10, 3, none⟩) (Kd.V_far (p := ⟨t10, 2, none⟩) (Kd.V_far (p := ⟨t10, 1, none⟩) (Kd.V_far (p := ⟨t10, 0, none⟩) HsV.out (fun k_ (hk_ : X3.heap.size ≤ k_ ∧ k_ ≠ t10) => by show k_ ≠ t10; omega) (.int .i64 v0)) (fun k_ (hk_ : X3.heap.size ≤ k_ ∧ k_ ≠ t10) => by show k_ ≠ t10; omega) (.int .i64 v1)) (fun k_ (hk_ : X3.heap.size ≤ k_ ∧ k_ ≠ t10) => by show k_ ≠ t10; omega) (.int .i64 v2)) (fun k_ (hk_ : X3.heap.size ≤ k_ ∧ k_ ≠ t10) => by show k_ ≠ t10; omega) (.slice vA v3.length va)) (fun k_ (hk_ : X3.heap.size ≤ k_ ∧ k_ ≠ t10) => by show k_ ≠ t10; omega) (.slice vB v4.length vb))
  replace HsW := Aside0.mk (Kd.V_far (p := ⟨t10, 4, none⟩) (Kd.V_far (p := ⟨t10, 3, none⟩) (Kd.V_far (p := ⟨t10, 2, none⟩) (Kd.V_far (p := ⟨t10, 1, none⟩) (Kd.V_far (p := ⟨t10, 0, none⟩) HsW.out (fun k_ (hk_ : X3.heap.size ≤ k_ ∧ k_ ≠ t10) => by show k_ ≠ t10; omega) (.int .i64 v0)) (fun k_ (hk_ : X3.heap.size ≤ k_ ∧ k_ ≠ t10) => by show k_ ≠ t10; omega) (.int .i64 v1)) (fun k_ (hk_ : X3.heap.size ≤ k_ ∧ k_ ≠ t10) => by show k_ ≠ t10; omega) (.int .i64 v2)) (fun k_ (hk_ : X3.heap.size ≤ k_ ∧ k_ ≠ t10) => by show k_ ≠ t10; omega) (.slice vA v3.length va)) (fun k_ (hk_ : X3.heap.size ≤ k_ ∧ k_ ≠ t10) => by show k_ ≠ t10; omega) (.slice vB v4.length vb))
  replace HvV := Aside0.mk (Kd.V_far (p := ⟨t10, 4, none⟩) (Kd.V_far (p := ⟨t10, 3, none⟩) (Kd.V_far (p := ⟨t10, 2, none⟩) (Kd.V_far (p := ⟨t10, 1, none⟩) (Kd.V_far (p := ⟨t10, 0, none⟩) HvV.out (fun k_ (hk_ : X9.heap.size ≤ k_) => by show k_ ≠ t10; omega) (.int .i64 v0)) (fun k_ (hk_ : X9.heap.size ≤ k_) => by show k_ ≠ t10; omega) (.int .i64 v1)) (fun k_ (hk_ : X9.heap.size ≤ k_) => by show k_ ≠ t10; omega) (.int .i64 v2)) (fun k_ (hk_ : X9.heap.size ≤ k_) => by show k_ ≠ t10; omega) (.slice vA v3.length va)) (fun k_ (hk_ : X9.heap.size ≤ k_) => by show k_ ≠ t10; omega) (.slice vB v4.length vb))
  replace HvW := Aside0.mk (Kd.V_far (p := ⟨t10, 4, none⟩) (Kd.V_far (p := ⟨t10, 3, none⟩) (Kd.V_far (p := ⟨t10, 2, none⟩) (Kd.V_far (p := ⟨t10, 1, none⟩) (Kd.V_far (p := ⟨t10, 0, none⟩) HvW.out (fun k_ (hk_ : X9.heap.size ≤ k_) => by show k_ ≠ t10; omega) (.int .i64 v0)) (fun k_ (hk_ : X9.heap.size ≤ k_) => by show k_ ≠ t10; omega) (.int .i64 v1)) (fun k_ (hk_ : X9.heap.size ≤ k_) => by show k_ ≠ t10; omega) (.int .i64 v2)) (fun k_ (hk_ : X9.heap.size ≤ k_) => by show k_ ≠ t10; omega) (.slice vA v3.length va)) (fun k_ (hk_ : X9.heap.size ≤ k_) => by show k_ ≠ t10; omega) (.slice vB v4.length vb))
  replace HB := Aside0.mk (below_set (j := 4) (v := (.slice vB v4.length vb)) (below_set (j := 3) (v := (.slice vA v3.length va)) (below_set (j := 2) (v := (.int .i64 v2)) (below_set (j := 1) (v := (.int .i64 v1)) (below_set (j := 0) (v := (.int .i64 v0)) HB.out (show w.heap.size ≤ t10 by omega)) (show w.heap.size ≤ t10 by omega)) (show w.heap.size ≤ t10 by omega)) (show w.heap.size ≤ t10 by omega)) (show w.heap.size ≤ t10 by omega))
  have hp_v : ((((((x10).setCell ⟨t10, 0, none⟩ (.int .i64 v0)).setCell ⟨t10, 1, none⟩ (.int .i64 v1)).setCell ⟨t10, 2, none⟩ (.int .i64 v2)).setCell ⟨t10, 3, none⟩ (.slice vA v3.length va)).setCell ⟨t10, 4, none⟩ (.slice vB v4.length vb)).heap.size = x10.heap.size := by simp
  generalize (((((x10).setCell ⟨t10, 0, none⟩ (.int .i64 v0)).setCell ⟨t10, 1, none⟩ (.int .i64 v1)).setCell ⟨t10, 2, none⟩ (.int .i64 v2)).setCell ⟨t10, 3, none⟩ (.slice vA v3.length va)).setCell ⟨t10, 4, none⟩ (.slice vB v4.length vb) = X11 at *
  have l45_t12 := blk_lt HA.out
  have l46_t12 := blk_lt HC.out
  have l47_t12 := blk_lt HD.out
  have l48_t12 := blk_lt HM.out
  have l49_t12 := blk_lt HE1.out
  have l50_t12 := blk_lt HE2.out
  have l51_t12 := blk_lt HN.out
  have l52_t12 := blk_lt HE3.out
  replace HA := Aside0.mk (blk_later HA.out (.cells #[.int .i64 v5, .int .i64 v6] 33))
  replace HC := Aside0.mk (blk_later HC.out (.cells #[.int .i64 v5, .int .i64 v6] 33))
  replace HD := Aside0.mk (blk_later HD.out (.cells #[.int .i64 v5, .int .i64 v6] 33))
  replace HM := Aside0.mk (blk_later HM.out (.cells #[.int .i64 v5, .int .i64 v6] 33))
  replace HE1 := Aside0.mk (blk_later HE1.out (.cells #[.int .i64 v5, .int .i64 v6] 33))
  replace HE2 := Aside0.mk (blk_later HE2.out (.cells #[.int .i64 v5, .int .i64 v6] 33))
  replace HN := Aside0.mk (blk_later HN.out (.cells #[.int .i64 v5, .int .i64 v6] 33))
  replace HE3 := Aside0.mk (blk_later HE3.out (.cells #[.int .i64 v5, .int .i64 v6] 33))
  replace HsV := Aside0.mk (Kd.V_alloc HsV.out (.cells #[.int .i64 v5, .int .i64 v6] 33))
  replace HsW := Aside0.mk (Kd.V_alloc HsW.out (.cells #[.int .i64 v5, .int .i64 v6] 33))
  replace HvV := Aside0.mk (Kd.V_alloc HvV.out (.cells #[.int .i64 v5, .int .i64 v6] 33))
  replace HvW := Aside0.mk (Kd.V_alloc HvW.out (.cells #[.int .i64 v5, .int .i64 v6] 33))
  replace HB := Aside0.mk (below_alloc HB.out (.cells #[.int .i64 v5, .int .i64 v6] 33))
  have HE4 := Aside0.mk (blk_at (w := X11) (.cells #[.int .i64 v5, .int .i64 v6] 33))
  rw [hp_v] at HE4 l45_t12 l46_t12 l47_t12 l48_t12 l49_t12 l50_t12 l51_t12 l52_t12
  clear hp_v
  generalize X11.alloc (.cells #[.int .i64 v5, .int .i64 v6] 33) = X12 at *
  generalize x10.heap.size = t12 at *
  refine region_till 14 (fun _ => True) (fun w' : World => w'.cell? ⟨t7, 0, none⟩ = some (.int .i64 s0) ∧ w'.cell? ⟨t7, 1, none⟩ = some (.int .i64 s1) ∧ w'.cell? ⟨t7, 2, none⟩ = some (.int .i64 s2) ∧ w'.cell? ⟨t7, 3, none⟩ = some (.slice sA s3.length sa) ∧ w'.cell? ⟨t7, 4, none⟩ = some (.slice sB s4.length sb) ∧ w'.cell? ⟨t10, 0, none⟩ = some (.int .i64 v0) ∧ w'.cell? ⟨t10, 1, none⟩ = some (.int .i64 v1) ∧ w'.cell? ⟨t10, 2, none⟩ = some (.int .i64 v2) ∧ w'.cell? ⟨t10, 3, none⟩ = some (.slice vA v3.length va) ∧ w'.cell? ⟨t10, 4, none⟩ = some (.slice vB v4.length vb)) (by kernel_rfl) ⟨trivial, ⟨bc0 (blk_drew HM.out) 0, bc0 (blk_drew HM.out) 1, bc0 (blk_drew HM.out) 2, bc0 (blk_drew HM.out) 3, bc0 (blk_drew HM.out) 4, bc0 (blk_drew HN.out) 0, bc0 (blk_drew HN.out) 1, bc0 (blk_drew HN.out) 2, bc0 (blk_drew HN.out) 3, bc0 (blk_drew HN.out) 4⟩⟩ (fun hTU => ?_)
  replace HA := Aside0.mk (blk_drew HA.out)
  replace HC := Aside0.mk (blk_drew HC.out)
  replace HD := Aside0.mk (blk_drew HD.out)
  replace HM := Aside0.mk (blk_drew HM.out)
  replace HE1 := Aside0.mk (blk_drew HE1.out)
  replace HE2 := Aside0.mk (blk_drew HE2.out)
  replace HN := Aside0.mk (blk_drew HN.out)
  replace HE3 := Aside0.mk (blk_drew HE3.out)
  replace HE4 := Aside0.mk (blk_drew HE4.out)
  replace HsV := Aside0.mk (Kd.V_drew HsV.out)
  replace HsW := Aside0.mk (Kd.V_drew HsW.out)
  replace HvV := Aside0.mk (Kd.V_drew HvV.out)
  replace HvW := Aside0.mk (Kd.V_drew HvW.out)
  replace HB := Aside0.mk (below_drew1 HB.out)
  generalize X12.drew = X13 at *
  refine till_takeD (i := 0) (v := ?_) (some 72) rfl rfl (by kernel_rfl) (by kernel_rfl) (by kernel_rfl) (by kernel_rfl) (fun _ _ _ h => h) (Or.inl ⟨by rfl, ?_⟩) (by assumption) ?_
  rotate_left
  · (intro w_ hS_; (try dsimp only at hS_); go_simp; try with_reducible rfl)
  try simp only [Act.put, List.setIfInBounds_toArray, List.set_cons_zero, List.set_cons_succ]
  refine till_takeD (i := 1) (v := ?_) (some 73) rfl rfl (by kernel_rfl) (by kernel_rfl) (by kernel_rfl) (by kernel_rfl) (fun _ _ _ h => h) (Or.inl ⟨by rfl, ?_⟩) (by assumption) ?_
  rotate_left
  · (intro w_ hS_; (try dsimp only at hS_); go_simp; try with_reducible rfl)
  try simp only [Act.put, List.setIfInBounds_toArray, List.set_cons_zero, List.set_cons_succ]
  refine till_takeD (i := 2) (v := ?_) (some 74) rfl rfl (by kernel_rfl) (by kernel_rfl) (by kernel_rfl) (by kernel_rfl) (fun _ _ _ h => h) (Or.inl ⟨by rfl, ?_⟩) (by assumption) ?_
  rotate_left
  · (intro w_ hS_; (try dsimp only at hS_); go_simp; try with_reducible rfl)
  try simp only [Act.put, List.setIfInBounds_toArray, List.set_cons_zero, List.set_cons_succ]
  refine till_takeD (i := 3) (v := ?_) (some 75) rfl rfl (by kernel_rfl) (by kernel_rfl) (by kernel_rfl) (by kernel_rfl) (fun _ _ _ h => h) (Or.inl ⟨by rfl, ?_⟩) (by assumption) ?_
  rotate_left
  · (intro w_ hS_; (try dsimp only at hS_); go_simp; try with_reducible rfl)
  try simp only [Act.put, List.setIfInBounds_toArray, List.set_cons_zero, List.set_cons_succ]
  refine till_freeD (i := 4) (v := ?_) (some 76) rfl rfl (by decide) (by kernel_rfl) (by kernel_rfl) (by kernel_rfl) (fun _ _ _ h => h) (Or.inl ⟨by rfl, ?_⟩) ⟨hTU.1, fun _ => hTU.2⟩ ?_
  rotate_left
  · (intro w_ _; go_simp; try with_reducible rfl)
  try simp only [Act.put, List.setIfInBounds_toArray, List.set_cons_zero, List.set_cons_succ]
  refine till_freeD (i := 5) (v := ?_) (some 77) rfl rfl (by decide) (by kernel_rfl) (by kernel_rfl) (by kernel_rfl) (fun _ _ _ h => h) (Or.inl ⟨by rfl, ?_⟩) ⟨hTU.1, fun _ => hTU.2⟩ ?_
  rotate_left
  · (intro w_ _; go_simp; try with_reducible rfl)
  try simp only [Act.put, List.setIfInBounds_toArray, List.set_cons_zero, List.set_cons_succ]
  refine till_takeD (i := 6) (v := ?_) (some 78) rfl rfl (by kernel_rfl) (by kernel_rfl) (by kernel_rfl) (by kernel_rfl) (fun _ _ _ h => h) (Or.inl ⟨by rfl, ?_⟩) (by assumption) ?_
  rotate_left
  · (intro w_ hS_; (try dsimp only at hS_); go_simp; try with_reducible rfl)
  try simp only [Act.put, List.setIfInBounds_toArray, List.set_cons_zero, List.set_cons_succ]
  refine till_takeD (i := 9) (v := ?_) (some 81) rfl rfl (by kernel_rfl) (by kernel_rfl) (by kernel_rfl) (by kernel_rfl) (fun _ _ _ h => h) (Or.inl ⟨by rfl, ?_⟩) (by assumption) ?_
  rotate_left
  · (intro w_ hS_; (try dsimp only at hS_); go_simp; try with_reducible rfl)
  try simp only [Act.put, List.setIfInBounds_toArray, List.set_cons_zero, List.set_cons_succ]
  refine till_one (i := 7) (by kernel_rfl) rfl (fun K hK => ?_)
  go_simp
  go_at_call 15
  refine (posthouseref8_ViewOf.calls k s0 s1 s2 sA sa s3 sB sb s4 m1 n1 _ (Kd.F_now (Kd.V_F HsV.out)) (Kd.V_at HsV.out).2.1 (Kd.F_now (Kd.V_F HsW.out)) (Kd.V_at HsW.out).2.1 W1.out).mono ?_
  rintro e x14 ⟨v3_, rfl, hv3_, hb⟩
  obtain ⟨nA, na, rfl⟩ := Kd.R_slice hv3_
  have HnV := Aside0.mk (Kd.R_V (base' := 0) hv3_)
  clear hv3_
  replace HA := Aside0.mk (blk_call HA.out hb)
  replace HC := Aside0.mk (blk_call HC.out hb)
  replace HD := Aside0.mk (blk_call HD.out hb)
  replace HM := Aside0.mk (blk_call HM.out hb)
  replace HE1 := Aside0.mk (blk_call HE1.out hb)
  replace HE2 := Aside0.mk (blk_call HE2.out hb)
  replace HN := Aside0.mk (blk_call HN.out hb)
  replace HE3 := Aside0.mk (blk_call HE3.out hb)
  replace HE4 := Aside0.mk (blk_call HE4.out hb)
  replace HsV := Aside0.mk (Kd.V_below HsV.out hb)
  replace HsW := Aside0.mk (Kd.V_below HsW.out hb)
  replace HvV := Aside0.mk (Kd.V_below HvV.out hb)
  replace HvW := Aside0.mk (Kd.V_below HvW.out hb)
  replace HB := Aside0.mk (below_step HB.out hb)
  clear hb
  clear HsV HsW
  refine hK.out _ _ trivial (fun _ _ => ⟨bc0 HM.out 0, bc0 HM.out 1, bc0 HM.out 2, bc0 HM.out 3, bc0 HM.out 4, bc0 HN.out 0, bc0 HN.out 1, bc0 HN.out 2, bc0 HN.out 3, bc0 HN.out 4⟩) (fun hTV => ?_)
  clear hK K hTU
  have hTU := hTV (by kernel_rfl) (by decide)
  clear hTV
  try simp only [Act.put, List.setIfInBounds_toArray, List.set_cons_zero, List.set_cons_succ]
  refine till_freeD (i := 8) (v := ?_) (some 80) rfl rfl (by decide) (by kernel_rfl) (by kernel_rfl) (by kernel_rfl) (fun _ _ _ h => h) (Or.inl ⟨by rfl, ?_⟩) ⟨hTU.1, fun _ => hTU.2⟩ ?_
  rotate_left
  · (intro w_ _; go_simp; try with_reducible rfl)
  try simp only [Act.put, List.setIfInBounds_toArray, List.set_cons_zero, List.set_cons_succ]
  refine till_one (i := 10) (by kernel_rfl) rfl (fun K hK => ?_)
  go_simp
  go_at_call 15
  refine (posthouseref8_ViewOf.calls k v0 v1 v2 vA va v3 vB vb v4 m2 n2 _ (Kd.F_now (Kd.V_F HvV.out)) (Kd.V_at HvV.out).2.1 (Kd.F_now (Kd.V_F HvW.out)) (Kd.V_at HvW.out).2.1 W2.out).mono ?_
  rintro e x15 ⟨v3_, rfl, hv3_, hb⟩
  obtain ⟨oA, oa, rfl⟩ := Kd.R_slice hv3_
  have HoV := Aside0.mk (Kd.R_V (base' := 0) hv3_)
  clear hv3_
  replace HA := Aside0.mk (blk_call HA.out hb)
  replace HC := Aside0.mk (blk_call HC.out hb)
  replace HD := Aside0.mk (blk_call HD.out hb)
  replace HM := Aside0.mk (blk_call HM.out hb)
  replace HE1 := Aside0.mk (blk_call HE1.out hb)
  replace HE2 := Aside0.mk (blk_call HE2.out hb)
  replace HN := Aside0.mk (blk_call HN.out hb)
  replace HE3 := Aside0.mk (blk_call HE3.out hb)
  replace HE4 := Aside0.mk (blk_call HE4.out hb)
  replace HvV := Aside0.mk (Kd.V_below HvV.out hb)
  replace HvW := Aside0.mk (Kd.V_below HvW.out hb)
  replace HnV := Aside0.mk (Kd.V_below HnV.out hb)
  replace HB := Aside0.mk (below_step HB.out hb)
  clear hb
  clear HvV HvW
  refine hK.out _ _ trivial (fun _ _ => ⟨bc0 HM.out 0, bc0 HM.out 1, bc0 HM.out 2, bc0 HM.out 3, bc0 HM.out 4, bc0 HN.out 0, bc0 HN.out 1, bc0 HN.out 2, bc0 HN.out 3, bc0 HN.out 4⟩) (fun hTV => ?_)
  clear hK K hTU
  have hTU := hTV (by kernel_rfl) (by decide)
  clear hTV
  try simp only [Act.put, List.setIfInBounds_toArray, List.set_cons_zero, List.set_cons_succ]
  refine till_freeD (i := 11) (v := ?_) (some 83) rfl rfl (by decide) (by kernel_rfl) (by kernel_rfl) (by kernel_rfl) (fun _ _ _ h => h) (Or.inl ⟨by rfl, ?_⟩) ⟨hTU.1, fun _ => hTU.2⟩ ?_
  rotate_left
  · (intro w_ _; go_simp; try with_reducible rfl)
  try simp only [Act.put, List.setIfInBounds_toArray, List.set_cons_zero, List.set_cons_succ]
  refine till_one (i := 12) (by kernel_rfl) rfl (fun K hK => ?_)
  go_simp
  go_at_call 14
  refine (posthouseref8_SameSeen.calls k nA na n1 oA oa n2 true _ (Kd.F_now (Kd.V_F HnV.out)) (Kd.V_at HnV.out).2.1 (Kd.F_now (Kd.V_F HoV.out)) (Kd.V_at HoV.out).2.1 W3.out).mono ?_
  rintro e x16 ⟨rfl, hd⟩
  have hb := hd.below
  replace HA := Aside0.mk (blk_call HA.out hb)
  replace HC := Aside0.mk (blk_call HC.out hb)
  replace HD := Aside0.mk (blk_call HD.out hb)
  replace HM := Aside0.mk (blk_call HM.out hb)
  replace HE1 := Aside0.mk (blk_call HE1.out hb)
  replace HE2 := Aside0.mk (blk_call HE2.out hb)
  replace HN := Aside0.mk (blk_call HN.out hb)
  replace HE3 := Aside0.mk (blk_call HE3.out hb)
  replace HE4 := Aside0.mk (blk_call HE4.out hb)
  replace HnV := Aside0.mk (Kd.V_below HnV.out hb)
  replace HoV := Aside0.mk (Kd.V_below HoV.out hb)
  replace HB := Aside0.mk (below_step HB.out hb)
  clear hb
  refine hK.out _ _ trivial (fun _ _ => ⟨bc0 HM.out 0, bc0 HM.out 1, bc0 HM.out 2, bc0 HM.out 3, bc0 HM.out 4, bc0 HN.out 0, bc0 HN.out 1, bc0 HN.out 2, bc0 HN.out 3, bc0 HN.out 4⟩) (fun hTV => ?_)
  clear hK K hTU
  have hTU := hTV (by kernel_rfl) (by decide)
  clear hTV
  try simp only [Act.put, List.setIfInBounds_toArray, List.set_cons_zero, List.set_cons_succ]
  refine till_freeD (i := 13) (v := ?_) (some 85) rfl rfl (by decide) (by kernel_rfl) (by kernel_rfl) (by kernel_rfl) (fun _ _ _ h => h) (Or.inl ⟨by rfl, ?_⟩) ⟨hTU.1, fun _ => hTU.2⟩ ?_
  rotate_left
  · (intro w_ _; go_simp; try with_reducible rfl)
  try simp only [Act.put, List.setIfInBounds_toArray, List.set_cons_zero, List.set_cons_succ]
  refine till_one (i := 14) (by kernel_rfl) rfl (fun K hK => ?_)
  go_simp
  refine hK.out _ _ trivial (fun _ h => absurd rfl h) (fun _ => ?_)
  clear hK K hTU
  refine till_done (by kernel_rfl) ?_ _
  go_wp2
  go_ret
  exact ⟨rfl, HB.out⟩



end Go.Proofs.YtlaglkcgmhgacaaDoor.P
