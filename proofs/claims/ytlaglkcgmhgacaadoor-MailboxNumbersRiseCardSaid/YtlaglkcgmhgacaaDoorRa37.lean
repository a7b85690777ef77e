/- Functions of this seat as Lean functions, and that the Go code comes to their answers: written by a program of this session's. -/
import Derived.Test.YtlaglkcgmhgacaaDoorRa34
import Derived.Test.YtlaglkcgmhgacaaDoorRa16
import Derived.Test.YtlaglkcgmhgacaaDoorRa25
import Derived.Test.YtlaglkcgmhgacaaDoorRa26
import Derived.Test.YtlaglkcgmhgacaaDoorRa31
import Derived.Test.YtlaglkcgmhgacaaDoorRa36
import Derived.Test.YtlaglkcgmhgacaaDoorRa33
namespace Go.Proofs.YtlaglkcgmhgacaaDoor.P
open Go.RowKit Go.Proofs.YtlaglkcgmhgacaaDoorW.PrintWords Go.Proofs.YtlaglkcgmhgacaaDoorW.PrintLast Go.Proofs.YtlaglkcgmhgacaaDoorW.PrintMore
attribute [local go_sem] max2_int min2_int max_two min_two max_three min_three max_four min_four   -- for this text's walks alone
set_option linter.unusedVariables false
set_option linter.unusedSimpArgs false

/-! ### posthouselaw8_MailboxNumbersRise: function 4 -/
set_option maxHeartbeats 4000000 in
set_option maxRecDepth 100000 in
theorem NumbersRise_a (k : Nat) (a0 a1 a2 : Int) (aA : Option Addr) (aa : Nat) (a3 : List (S58)) (aB : Option Addr) (ab : Nat) (a4 : List (S61)) (c0 c1 c2 c3 c4 : Int) (cA : Option Addr) (ca : Nat) (c5 : List (S77)) (cB : Option Addr) (cb : Nat) (c6 : List Int) (r0 r1 r2 : Int) (r3 : List (S58)) (r4 : List (S61)) (r5 r6 : Int) (w : World) (ha3 : Kd.C k58 w aA a3.length a3) (ea3 : a3.length ≤ aa) (ha4 : Kd.C k61 w aB a4.length a4) (ea4 : a4.length ≤ ab) (hc5 : Kd.C k77 w cA c5.length c5) (ec5 : c5.length ≤ ca) (hc6 : Kd.C (Kd.int .u8) w cB c6.length c6) (ec6 : c6.length ≤ cb) (h1 : mailbox_Apply.f k a0 a1 a2 a3 a4 c0 c1 c2 c3 c4 c5 c6 = some (r0, r1, r2, r3, r4, r5, r6)) (hbx : ∀ w, Calls Tryd.prog 8 #[] w fun e w' => e = .returned (.bool true) ∧ Below w.heap.size w w') (h5 : (r5 != 0) = true) (h6 : posthouseref8_SameBox.f r0 r1 r2 r3 r4 0 0 0 [] [] = some true) :
    Calls Tryd.prog 4 #[.agg #[.int .i64 a0, .int .i64 a1, .int .i64 a2, .slice aA a3.length aa, .slice aB a4.length ab], .agg #[.int .i64 c0, .int .i64 c1, .int .i64 c2, .int .i64 c3, .int .i64 c4, .slice cA c5.length ca, .slice cB c6.length cb]] w fun e w' => e = .returned (.bool true) ∧ Below w.heap.size w w' := by
  have HA3 := Aside0.mk ha3
  have HA4 := Aside0.mk ha4
  have HC5 := Aside0.mk hc5
  have HC6 := Aside0.mk hc6
  have H1 := Aside0.mk h1
  have HBX := Aside0.mk hbx
  have H6 := Aside0.mk h6
  clear ha3 ha4 hc5 hc6 h1 hbx h6
  have HB := Aside0.mk (below_alloc (below_alloc (Below.refl w.heap.size w) (.cells #[.int .i64 a0, .int .i64 a1, .int .i64 a2, .slice aA a3.length aa, .slice aB a4.length ab] 25)) (.cells #[.int .i64 c0, .int .i64 c1, .int .i64 c2, .int .i64 c3, .int .i64 c4, .slice cA c5.length ca, .slice cB c6.length cb] 31))
  have HA := Aside0.mk (blk_later (blk_at (w := w) (.cells #[.int .i64 a0, .int .i64 a1, .int .i64 a2, .slice aA a3.length aa, .slice aB a4.length ab] 25)) (.cells #[.int .i64 c0, .int .i64 c1, .int .i64 c2, .int .i64 c3, .int .i64 c4, .slice cA c5.length ca, .slice cB c6.length cb] 31))
  go_enter Tryd.func4, Tryd.ntmps4
  go_wp2_with fail
  refine (mailbox_Apply.calls k a0 a1 a2 aA aa a3 aB ab a4 c0 c1 c2 c3 c4 cA ca c5 cB cb c6 r0 r1 r2 r3 r4 r5 r6 _ (Kd.C_below HA3.out HB.out) ea3 (Kd.C_below HA4.out HB.out) ea4 (Kd.C_below HC5.out HB.out) ec5 (Kd.C_below HC6.out HB.out) ec6 H1.out).mono ?_
  rintro e w1 ⟨v3_, v4_, rfl, hv3_, hv4_, hb⟩
  obtain ⟨rA, ra, rfl⟩ := Kd.V_slice hv3_
  obtain ⟨rB, rb, rfl⟩ := Kd.V_slice hv4_
  have HrV := Aside0.mk hv3_
  have HrW := Aside0.mk hv4_
  clear hv3_ hv4_
  replace HA := Aside0.mk (blk_call HA.out hb)
  replace HB := Aside0.mk (below_step HB.out hb)
  clear hb
  go_wp2_with fail
  have l1_t5 := blk_lt HA.out
  replace HA := Aside0.mk (blk_later HA.out (.cells #[.int .i64 r0, .int .i64 r1, .int .i64 r2, .slice rA r3.length ra, .slice rB r4.length rb] 25))
  replace HrV := Aside0.mk (Kd.V_alloc HrV.out (.cells #[.int .i64 r0, .int .i64 r1, .int .i64 r2, .slice rA r3.length ra, .slice rB r4.length rb] 25))
  replace HrW := Aside0.mk (Kd.V_alloc HrW.out (.cells #[.int .i64 r0, .int .i64 r1, .int .i64 r2, .slice rA r3.length ra, .slice rB r4.length rb] 25))
  replace HB := Aside0.mk (below_alloc HB.out (.cells #[.int .i64 r0, .int .i64 r1, .int .i64 r2, .slice rA r3.length ra, .slice rB r4.length rb] 25))
  have HM := Aside0.mk (blk_at (w := w1) (.cells #[.int .i64 r0, .int .i64 r1, .int .i64 r2, .slice rA r3.length ra, .slice rB r4.length rb] 25))
  have hs_t5 : (w1.alloc (.cells #[.int .i64 r0, .int .i64 r1, .int .i64 r2, .slice rA r3.length ra, .slice rB r4.length rb] 25)).heap.size = w1.heap.size + 1 := by simp
  generalize w1.alloc (.cells #[.int .i64 r0, .int .i64 r1, .int .i64 r2, .slice rA r3.length ra, .slice rB r4.length rb] 25) = W2 at *
  generalize w1.heap.size = t5 at *
  have l2_t51 := blk_lt HA.out
  have l3_t51 := blk_lt HM.out
  replace HA := Aside0.mk (blk_later HA.out (.cells #[.int .i64 r5, .int .i64 r6] 33))
  replace HM := Aside0.mk (blk_later HM.out (.cells #[.int .i64 r5, .int .i64 r6] 33))
  replace HrV := Aside0.mk (Kd.V_alloc HrV.out (.cells #[.int .i64 r5, .int .i64 r6] 33))
  replace HrW := Aside0.mk (Kd.V_alloc HrW.out (.cells #[.int .i64 r5, .int .i64 r6] 33))
  replace HB := Aside0.mk (below_alloc HB.out (.cells #[.int .i64 r5, .int .i64 r6] 33))
  have HE := Aside0.mk (blk_at (w := W2) (.cells #[.int .i64 r5, .int .i64 r6] 33))
  rw [hs_t5] at HE l2_t51 l3_t51
  clear hs_t5
  generalize W2.alloc (.cells #[.int .i64 r5, .int .i64 r6] 33) = W3 at *
  refine (HBX.out _).mono ?_
  rintro e w4 ⟨rfl, hb⟩
  replace HA := Aside0.mk (blk_call HA.out hb)
  replace HM := Aside0.mk (blk_call HM.out hb)
  replace HE := Aside0.mk (blk_call HE.out hb)
  replace HrV := Aside0.mk (Kd.V_below HrV.out hb)
  replace HrW := Aside0.mk (Kd.V_below HrW.out hb)
  replace HB := Aside0.mk (below_step HB.out hb)
  clear hb
  have kHE := bc0 HE.out
  have fHE := bf0 HE.out
  have yHE := blk_lt HE.out
  have kHM := bc0 HM.out
  have fHM := bf0 HM.out
  have yHM := blk_lt HM.out
  have kHA := bc0 HA.out
  have fHA := bf0 HA.out
  have yHA := blk_lt HA.out
  go_wp2_with fail
  refine (posthouseref8_SameBox.calls r0 r1 r2 rA ra r3 rB rb r4 0 0 0 none 0 [] none 0 [] true _ (Kd.F_now (Kd.V_F HrV.out)) (Kd.V_at HrV.out).2.1 (Kd.F_now (Kd.V_F HrW.out)) (Kd.V_at HrW.out).2.1 (Kd.C_nil k58 _) (Nat.le_refl _) (Kd.C_nil k61 _) (Nat.le_refl _) H6.out).mono ?_
  rintro e w5 ⟨rfl, hb⟩
  clear kHE fHE yHE kHM fHM yHM kHA fHA yHA
  replace HA := Aside0.mk (blk_call HA.out hb)
  replace HM := Aside0.mk (blk_call HM.out hb)
  replace HE := Aside0.mk (blk_call HE.out hb)
  replace HrV := Aside0.mk (Kd.V_below HrV.out hb)
  replace HrW := Aside0.mk (Kd.V_below HrW.out hb)
  replace HB := Aside0.mk (below_step HB.out hb)
  clear hb
  go_wp2
  go_ret
  exact ⟨rfl, HB.out⟩

set_option maxHeartbeats 4000000 in
set_option maxRecDepth 100000 in
theorem NumbersRise_b (k : Nat) (a0 a1 a2 : Int) (aA : Option Addr) (aa : Nat) (a3 : List (S58)) (aB : Option Addr) (ab : Nat) (a4 : List (S61)) (c0 c1 c2 c3 c4 : Int) (cA : Option Addr) (ca : Nat) (c5 : List (S77)) (cB : Option Addr) (cb : Nat) (c6 : List Int) (r0 r1 r2 : Int) (r3 : List (S58)) (r4 : List (S61)) (r5 r6 : Int) (w : World) (ha3 : Kd.C k58 w aA a3.length a3) (ea3 : a3.length ≤ aa) (ha4 : Kd.C k61 w aB a4.length a4) (ea4 : a4.length ≤ ab) (hc5 : Kd.C k77 w cA c5.length c5) (ec5 : c5.length ≤ ca) (hc6 : Kd.C (Kd.int .u8) w cB c6.length c6) (ec6 : c6.length ≤ cb) (h1 : mailbox_Apply.f k a0 a1 a2 a3 a4 c0 c1 c2 c3 c4 c5 c6 = some (r0, r1, r2, r3, r4, r5, r6)) (hbx : ∀ w, Calls Tryd.prog 8 #[] w fun e w' => e = .returned (.bool true) ∧ Below w.heap.size w w') (x : Int) (h5 : (r5 != 0) = false) (h6 : mailbox_Validate.f k r0 r1 r2 r3 r4 = some (0, x)) (h7 : inB (wrap64 (r0 - a0)) 0 1 = true) (h8 : inB (wrap64 (r1 - a1)) 0 1 = true) (h9 : decide (r2 < a2) = false) (h10 : decide (a1 < r1) = true) :
    Calls Tryd.prog 4 #[.agg #[.int .i64 a0, .int .i64 a1, .int .i64 a2, .slice aA a3.length aa, .slice aB a4.length ab], .agg #[.int .i64 c0, .int .i64 c1, .int .i64 c2, .int .i64 c3, .int .i64 c4, .slice cA c5.length ca, .slice cB c6.length cb]] w fun e w' => e = .returned (.bool true) ∧ Below w.heap.size w w' := by
  have HA3 := Aside0.mk ha3
  have HA4 := Aside0.mk ha4
  have HC5 := Aside0.mk hc5
  have HC6 := Aside0.mk hc6
  have H1 := Aside0.mk h1
  have HBX := Aside0.mk hbx
  have H6 := Aside0.mk h6
  clear ha3 ha4 hc5 hc6 h1 hbx h6
  have hfld := fieldFault_0
  have HB := Aside0.mk (below_alloc (below_alloc (Below.refl w.heap.size w) (.cells #[.int .i64 a0, .int .i64 a1, .int .i64 a2, .slice aA a3.length aa, .slice aB a4.length ab] 25)) (.cells #[.int .i64 c0, .int .i64 c1, .int .i64 c2, .int .i64 c3, .int .i64 c4, .slice cA c5.length ca, .slice cB c6.length cb] 31))
  have HA := Aside0.mk (blk_later (blk_at (w := w) (.cells #[.int .i64 a0, .int .i64 a1, .int .i64 a2, .slice aA a3.length aa, .slice aB a4.length ab] 25)) (.cells #[.int .i64 c0, .int .i64 c1, .int .i64 c2, .int .i64 c3, .int .i64 c4, .slice cA c5.length ca, .slice cB c6.length cb] 31))
  go_enter Tryd.func4, Tryd.ntmps4
  go_wp2_with fail
  refine (mailbox_Apply.calls k a0 a1 a2 aA aa a3 aB ab a4 c0 c1 c2 c3 c4 cA ca c5 cB cb c6 r0 r1 r2 r3 r4 r5 r6 _ (Kd.C_below HA3.out HB.out) ea3 (Kd.C_below HA4.out HB.out) ea4 (Kd.C_below HC5.out HB.out) ec5 (Kd.C_below HC6.out HB.out) ec6 H1.out).mono ?_
  rintro e w1 ⟨v3_, v4_, rfl, hv3_, hv4_, hb⟩
  obtain ⟨rA, ra, rfl⟩ := Kd.V_slice hv3_
  obtain ⟨rB, rb, rfl⟩ := Kd.V_slice hv4_
  have HrV := Aside0.mk hv3_
  have HrW := Aside0.mk hv4_
  clear hv3_ hv4_
  replace HA := Aside0.mk (blk_call HA.out hb)
  replace HB := Aside0.mk (below_step HB.out hb)
  clear hb
  go_wp2_with fail
  have l1_t5 := blk_lt HA.out
  replace HA := Aside0.mk (blk_later HA.out (.cells #[.int .i64 r0, .int .i64 r1, .int .i64 r2, .slice rA r3.length ra, .slice rB r4.length rb] 25))
  replace HrV := Aside0.mk (Kd.V_alloc HrV.out (.cells #[.int .i64 r0, .int .i64 r1, .int .i64 r2, .slice rA r3.length ra, .slice rB r4.length rb] 25))
  replace HrW := Aside0.mk (Kd.V_alloc HrW.out (.cells #[.int .i64 r0, .int .i64 r1, .int .i64 r2, .slice rA r3.length ra, .slice rB r4.length rb] 25))
  replace HB := Aside0.mk (below_alloc HB.out (.cells #[.int .i64 r0, .int .i64 r1, .int .i64 r2, .slice rA r3.length ra, .slice rB r4.length rb] 25))
  have HM := Aside0.mk (blk_at (w := w1) (.cells #[.int .i64 r0, .int .i64 r1, .int .i64 r2, .slice rA r3.length ra, .slice rB r4.length rb] 25))
  have hs_t5 : (w1.alloc (.cells #[.int .i64 r0, .int .i64 r1, .int .i64 r2, .slice rA r3.length ra, .slice rB r4.length rb] 25)).heap.size = w1.heap.size + 1 := by simp
  generalize w1.alloc (.cells #[.int .i64 r0, .int .i64 r1, .int .i64 r2, .slice rA r3.length ra, .slice rB r4.length rb] 25) = W2 at *
  generalize w1.heap.size = t5 at *
  have l2_t51 := blk_lt HA.out
  have l3_t51 := blk_lt HM.out
  replace HA := Aside0.mk (blk_later HA.out (.cells #[.int .i64 r5, .int .i64 r6] 33))
  replace HM := Aside0.mk (blk_later HM.out (.cells #[.int .i64 r5, .int .i64 r6] 33))
  replace HrV := Aside0.mk (Kd.V_alloc HrV.out (.cells #[.int .i64 r5, .int .i64 r6] 33))
  replace HrW := Aside0.mk (Kd.V_alloc HrW.out (.cells #[.int .i64 r5, .int .i64 r6] 33))
  replace HB := Aside0.mk (below_alloc HB.out (.cells #[.int .i64 r5, .int .i64 r6] 33))
  have HE := Aside0.mk (blk_at (w := W2) (.cells #[.int .i64 r5, .int .i64 r6] 33))
  rw [hs_t5] at HE l2_t51 l3_t51
  clear hs_t5
  generalize W2.alloc (.cells #[.int .i64 r5, .int .i64 r6] 33) = W3 at *
  refine (HBX.out _).mono ?_
  rintro e w4 ⟨rfl, hb⟩
  replace HA := Aside0.mk (blk_call HA.out hb)
  replace HM := Aside0.mk (blk_call HM.out hb)
  replace HE := Aside0.mk (blk_call HE.out hb)
  replace HrV := Aside0.mk (Kd.V_below HrV.out hb)
  replace HrW := Aside0.mk (Kd.V_below HrW.out hb)
  replace HB := Aside0.mk (below_step HB.out hb)
  clear hb
  have kHE := bc0 HE.out
  have fHE := bf0 HE.out
  have yHE := blk_lt HE.out
  have kHM := bc0 HM.out
  have fHM := bf0 HM.out
  have yHM := blk_lt HM.out
  have kHA := bc0 HA.out
  have fHA := bf0 HA.out
  have yHA := blk_lt HA.out
  go_wp2_with fail
  refine (mailbox_Validate.calls k r0 r1 r2 rA ra r3 rB rb r4 0 x _ (Kd.F_now (Kd.V_F HrV.out)) (Kd.V_at HrV.out).2.1 (Kd.F_now (Kd.V_F HrW.out)) (Kd.V_at HrW.out).2.1 H6.out).mono ?_
  rintro e w5 ⟨rfl, hb⟩
  clear kHE fHE yHE kHM fHM yHM kHA fHA yHA
  replace HA := Aside0.mk (blk_call HA.out hb)
  replace HM := Aside0.mk (blk_call HM.out hb)
  replace HE := Aside0.mk (blk_call HE.out hb)
  replace HrV := Aside0.mk (Kd.V_below HrV.out hb)
  replace HrW := Aside0.mk (Kd.V_below HrW.out hb)
  replace HB := Aside0.mk (below_step HB.out hb)
  clear hb
  have kHM := bc0 HM.out
  have fHM := bf0 HM.out
  have yHM := blk_lt HM.out
  have kHA := bc0 HA.out
  have fHA := bf0 HA.out
  have yHA := blk_lt HA.out
  go_wp2_with (first | (go_at_call 13; refine (posthouseref7_In_any _ _ _ _).mono ?_; rintro e w' ⟨rfl, rfl⟩; first | rw [h7] | rw [h8]))
  go_wp2
  go_ret
  exact ⟨rfl, HB.out⟩

set_option maxHeartbeats 4000000 in
set_option maxRecDepth 100000 in
theorem NumbersRise_c (k : Nat) (a0 a1 a2 : Int) (aA : Option Addr) (aa : Nat) (a3 : List (S58)) (aB : Option Addr) (ab : Nat) (a4 : List (S61)) (c0 c1 c2 c3 c4 : Int) (cA : Option Addr) (ca : Nat) (c5 : List (S77)) (cB : Option Addr) (cb : Nat) (c6 : List Int) (r0 r1 r2 : Int) (r3 : List (S58)) (r4 : List (S61)) (r5 r6 : Int) (w : World) (ha3 : Kd.C k58 w aA a3.length a3) (ea3 : a3.length ≤ aa) (ha4 : Kd.C k61 w aB a4.length a4) (ea4 : a4.length ≤ ab) (hc5 : Kd.C k77 w cA c5.length c5) (ec5 : c5.length ≤ ca) (hc6 : Kd.C (Kd.int .u8) w cB c6.length c6) (ec6 : c6.length ≤ cb) (h1 : mailbox_Apply.f k a0 a1 a2 a3 a4 c0 c1 c2 c3 c4 c5 c6 = some (r0, r1, r2, r3, r4, r5, r6)) (hbx : ∀ w, Calls Tryd.prog 8 #[] w fun e w' => e = .returned (.bool true) ∧ Below w.heap.size w w') (x : Int) (h5 : (r5 != 0) = false) (h6 : mailbox_Validate.f k r0 r1 r2 r3 r4 = some (0, x)) (h7 : inB (wrap64 (r0 - a0)) 0 1 = true) (h8 : inB (wrap64 (r1 - a1)) 0 1 = true) (h9 : decide (r2 < a2) = false) (h10 : decide (a1 < r1) = false) (h11 : posthouseref8_SameBox.f r0 r1 r2 r3 r4 a0 a1 a2 a3 a4 = some true) :
    Calls Tryd.prog 4 #[.agg #[.int .i64 a0, .int .i64 a1, .int .i64 a2, .slice aA a3.length aa, .slice aB a4.length ab], .agg #[.int .i64 c0, .int .i64 c1, .int .i64 c2, .int .i64 c3, .int .i64 c4, .slice cA c5.length ca, .slice cB c6.length cb]] w fun e w' => e = .returned (.bool true) ∧ Below w.heap.size w w' := by
  have HA3 := Aside0.mk ha3
  have HA4 := Aside0.mk ha4
  have HC5 := Aside0.mk hc5
  have HC6 := Aside0.mk hc6
  have H1 := Aside0.mk h1
  have HBX := Aside0.mk hbx
  have H6 := Aside0.mk h6
  have H11 := Aside0.mk h11
  clear ha3 ha4 hc5 hc6 h1 hbx h6 h11
  have hfld := fieldFault_0
  have HB := Aside0.mk (below_alloc (below_alloc (Below.refl w.heap.size w) (.cells #[.int .i64 a0, .int .i64 a1, .int .i64 a2, .slice aA a3.length aa, .slice aB a4.length ab] 25)) (.cells #[.int .i64 c0, .int .i64 c1, .int .i64 c2, .int .i64 c3, .int .i64 c4, .slice cA c5.length ca, .slice cB c6.length cb] 31))
  have HA := Aside0.mk (blk_later (blk_at (w := w) (.cells #[.int .i64 a0, .int .i64 a1, .int .i64 a2, .slice aA a3.length aa, .slice aB a4.length ab] 25)) (.cells #[.int .i64 c0, .int .i64 c1, .int .i64 c2, .int .i64 c3, .int .i64 c4, .slice cA c5.length ca, .slice cB c6.length cb] 31))
  go_enter Tryd.func4, Tryd.ntmps4
  go_wp2_with fail
  refine (mailbox_Apply.calls k a0 a1 a2 aA aa a3 aB ab a4 c0 c1 c2 c3 c4 cA ca c5 cB cb c6 r0 r1 r2 r3 r4 r5 r6 _ (Kd.C_below HA3.out HB.out) ea3 (Kd.C_below HA4.out HB.out) ea4 (Kd.C_below HC5.out HB.out) ec5 (Kd.C_below HC6.out HB.out) ec6 H1.out).mono ?_
  rintro e w1 ⟨v3_, v4_, rfl, hv3_, hv4_, hb⟩
  obtain ⟨rA, ra, rfl⟩ := Kd.V_slice hv3_
  obtain ⟨rB, rb, rfl⟩ := Kd.V_slice hv4_
  have HrV := Aside0.mk hv3_
  have HrW := Aside0.mk hv4_
  clear hv3_ hv4_
  replace HA := Aside0.mk (blk_call HA.out hb)
  replace HB := Aside0.mk (below_step HB.out hb)
  clear hb
  go_wp2_with fail
  have l1_t5 := blk_lt HA.out
  replace HA := Aside0.mk (blk_later HA.out (.cells #[.int .i64 r0, .int .i64 r1, .int .i64 r2, .slice rA r3.length ra, .slice rB r4.length rb] 25))
  replace HrV := Aside0.mk (Kd.V_alloc HrV.out (.cells #[.int .i64 r0, .int .i64 r1, .int .i64 r2, .slice rA r3.length ra, .slice rB r4.length rb] 25))
  replace HrW := Aside0.mk (Kd.V_alloc HrW.out (.cells #[.int .i64 r0, .int .i64 r1, .int .i64 r2, .slice rA r3.length ra, .slice rB r4.length rb] 25))
  replace HB := Aside0.mk (below_alloc HB.out (.cells #[.int .i64 r0, .int .i64 r1, .int .i64 r2, .slice rA r3.length ra, .slice rB r4.length rb] 25))
  have HM := Aside0.mk (blk_at (w := w1) (.cells #[.int .i64 r0, .int .i64 r1, .int .i64 r2, .slice rA r3.length ra, .slice rB r4.length rb] 25))
  have hs_t5 : (w1.alloc (.cells #[.int .i64 r0, .int .i64 r1, .int .i64 r2, .slice rA r3.length ra, .slice rB r4.length rb] 25)).heap.size = w1.heap.size + 1 := by simp
  generalize w1.alloc (.cells #[.int .i64 r0, .int .i64 r1, .int .i64 r2, .slice rA r3.length ra, .slice rB r4.length rb] 25) = W2 at *
  generalize w1.heap.size = t5 at *
  have l2_t51 := blk_lt HA.out
  have l3_t51 := blk_lt HM.out
  replace HA := Aside0.mk (blk_later HA.out (.cells #[.int .i64 r5, .int .i64 r6] 33))
  replace HM := Aside0.mk (blk_later HM.out (.cells #[.int .i64 r5, .int .i64 r6] 33))
  replace HrV := Aside0.mk (Kd.V_alloc HrV.out (.cells #[.int .i64 r5, .int .i64 r6] 33))
  replace HrW := Aside0.mk (Kd.V_alloc HrW.out (.cells #[.int .i64 r5, .int .i64 r6] 33))
  replace HB := Aside0.mk (below_alloc HB.out (.cells #[.int .i64 r5, .int .i64 r6] 33))
  have HE := Aside0.mk (blk_at (w := W2) (.cells #[.int .i64 r5, .int .i64 r6] 33))
  rw [hs_t5] at HE l2_t51 l3_t51
  clear hs_t5
  generalize W2.alloc (.cells #[.int .i64 r5, .int .i64 r6] 33) = W3 at *
  refine (HBX.out _).mono ?_
  rintro e w4 ⟨rfl, hb⟩
  replace HA := Aside0.mk (blk_call HA.out hb)
  replace HM := Aside0.mk (blk_call HM.out hb)
  replace HE := Aside0.mk (blk_call HE.out hb)
  replace HrV := Aside0.mk (Kd.V_below HrV.out hb)
  replace HrW := Aside0.mk (Kd.V_below HrW.out hb)
  replace HB := Aside0.mk (below_step HB.out hb)
  clear hb
  have kHE := bc0 HE.out
  have fHE := bf0 HE.out
  have yHE := blk_lt HE.out
  have kHM := bc0 HM.out
  have fHM := bf0 HM.out
  have yHM := blk_lt HM.out
  have kHA := bc0 HA.out
  have fHA := bf0 HA.out
  have yHA := blk_lt HA.out
  go_wp2_with fail
  refine (mailbox_Validate.calls k r0 r1 r2 rA ra r3 rB rb r4 0 x _ (Kd.F_now (Kd.V_F HrV.out)) (Kd.V_at HrV.out).2.1 (Kd.F_now (Kd.V_F HrW.out)) (Kd.V_at HrW.out).2.1 H6.out).mono ?_
  rintro e w5 ⟨rfl, hb⟩
  clear kHE fHE yHE kHM fHM yHM kHA fHA yHA
  replace HA := Aside0.mk (blk_call HA.out hb)
  replace HM := Aside0.mk (blk_call HM.out hb)
  replace HE := Aside0.mk (blk_call HE.out hb)
  replace HrV := Aside0.mk (Kd.V_below HrV.out hb)
  replace HrW := Aside0.mk (Kd.V_below HrW.out hb)
  replace HB := Aside0.mk (below_step HB.out hb)
  clear hb
  have kHM := bc0 HM.out
  have fHM := bf0 HM.out
  have yHM := blk_lt HM.out
  have kHA := bc0 HA.out
  have fHA := bf0 HA.out
  have yHA := blk_lt HA.out
  go_wp2_with (first | (go_at_call 13; refine (posthouseref7_In_any _ _ _ _).mono ?_; rintro e w' ⟨rfl, rfl⟩; first | rw [h7] | rw [h8]))
  refine (posthouseref8_SameBox.calls r0 r1 r2 rA ra r3 rB rb r4 a0 a1 a2 aA aa a3 aB ab a4 true _ (Kd.F_now (Kd.V_F HrV.out)) (Kd.V_at HrV.out).2.1 (Kd.F_now (Kd.V_F HrW.out)) (Kd.V_at HrW.out).2.1 (Kd.C_below HA3.out HB.out) ea3 (Kd.C_below HA4.out HB.out) ea4 H11.out).mono ?_
  rintro e w6 ⟨rfl, hb⟩
  clear kHM fHM yHM kHA fHA yHA
  replace HA := Aside0.mk (blk_call HA.out hb)
  replace HM := Aside0.mk (blk_call HM.out hb)
  replace HE := Aside0.mk (blk_call HE.out hb)
  replace HrV := Aside0.mk (Kd.V_below HrV.out hb)
  replace HrW := Aside0.mk (Kd.V_below HrW.out hb)
  replace HB := Aside0.mk (below_step HB.out hb)
  clear hb
  go_wp2
  go_ret
  exact ⟨rfl, HB.out⟩



end Go.Proofs.YtlaglkcgmhgacaaDoor.P
