/- Several texts in one, each in its own section. The last: The example of the quota laws, reckoned. -/
import Derived.Test.YtbolikomoenmaaaDoorQr10
import Derived.Test.YtbolikomoenmaaaDoorQr19
import Derived.Test.YtbolikomoenmaaaDoorQr33
import Derived.Test.YtbolikomoenmaaaDoorQr34
import Derived.Test.YtbolikomoenmaaaDoorQr36
import Derived.Test.YtbolikomoenmaaaDoorQr39
import Derived.KernelRfl
/- Functions of this seat as Lean functions, and that the Go code comes to their answers: written by a program of this session's. -/
section
namespace Go.Proofs.YtbolikomoenmaaaDoor.P
open Go.RowKit Go.Proofs.YtbolikomoenmaaaDoorW.PrintWords Go.Proofs.YtbolikomoenmaaaDoorW.PrintLast Go.Proofs.YtbolikomoenmaaaDoorW.PrintMore
attribute [local go_sem] max2_int min2_int max_two min_two max_three min_three max_four min_four   -- for this text's walks alone
set_option linter.unusedVariables false
set_option linter.unusedSimpArgs false

/-! ### posthouseref7_Ints: function 15 -/
def posthouseref7_Ints.l0 : Nat → List Int → List Int → Int → Option (Bool)
  | 0, _, _, _ => none
  | k + 1, x0, x1, x5 => if x5 < (x0.length : Int) then (if 0 ≤ x5 then (if x5 < (x1.length : Int) then (if (rd x0 x5) = (rd x1 x5) then (posthouseref7_Ints.l0 k x0 x1 (wrap64 (x5 + 1))) else (some false)) else (none)) else (none)) else (some true)
def posthouseref7_Ints.f (k : Nat) (l0 : List Int) (l1 : List Int) : Option (Bool) := if (l0.length : Int) = (l1.length : Int) then (posthouseref7_Ints.l0 k l0 l1 0) else (some false)
theorem posthouseref7_Ints.mono_l : ∀ k, (∀ y0 y1 y2, LeO (posthouseref7_Ints.l0 k y0 y1 y2) (posthouseref7_Ints.l0 (k + 1) y0 y1 y2))
  | 0 => fun _ _ _ r h => by simp [posthouseref7_Ints.l0] at h
  | k + 1 => by
    have ih0 := posthouseref7_Ints.mono_l k
    · intro y0 y1 y2
      unfold posthouseref7_Ints.l0
      repeat' first
      | (with_reducible exact ih0 _ _ _)
      | (with_reducible exact LeO.refl _)
      | (with_reducible exact LeO.none _)
      | (with_reducible refine LeO.ite ?_ ?_)
      | (with_reducible refine LeO.bind ?_ (fun _ => ?_))
      | exact ih0 _ _ _
      | exact LeO.none _
      | refine LeO.ite ?_ ?_
      | refine LeO.bind ?_ (fun _ => ?_)
theorem posthouseref7_Ints.mono : ∀ a0 a1 k, LeO (posthouseref7_Ints.f k a0 a1) (posthouseref7_Ints.f (k + 1) a0 a1) := by
  intro a0 a1 k
  have ih0 := posthouseref7_Ints.mono_l k
  unfold posthouseref7_Ints.f
  repeat' first
      | (with_reducible exact ih0 _ _ _)
      | (with_reducible exact LeO.refl _)
      | (with_reducible exact LeO.none _)
      | (with_reducible refine LeO.ite ?_ ?_)
      | (with_reducible refine LeO.bind ?_ (fun _ => ?_))
      | exact ih0 _ _ _
      | exact LeO.none _
      | refine LeO.ite ?_ ?_
      | refine LeO.bind ?_ (fun _ => ?_)
set_option maxHeartbeats 8000000 in
set_option maxRecDepth 100000 in
theorem posthouseref7_Ints.calls (k : Nat) (A0 : Option Addr) (c0 : Nat) (l0 : List Int) (A1 : Option Addr) (c1 : Nat) (l1 : List Int) (r : Bool) (w : World) (hr0 : Kd.C (Kd.int .i64) w A0 l0.length l0) (hc0 : l0.length ≤ c0) (hr1 : Kd.C (Kd.int .i64) w A1 l1.length l1) (hc1 : l1.length ≤ c1) (h : posthouseref7_Ints.f k l0 l1 = some r) :
    Calls Tryd.prog 15 #[.slice A0 l0.length c0, .slice A1 l1.length c1] w fun e w' => e = .returned (.bool r) ∧ Drawn0 w w' := by
  have HR0 := Aside0.mk hr0
  have HC0 := Aside0.mk hc0
  clear hr0 hc0
  have HR1 := Aside0.mk hr1
  have HC1 := Aside0.mk hc1
  clear hr1 hc1
  have H : (if (l0.length : Int) = (l1.length : Int) then (posthouseref7_Ints.l0 k l0 l1 0) else (some false)) = some r := h
  clear h
  by_cases c3 : (l0.length : Int) = (l1.length : Int)
  · rw [if_pos c3] at H
    have c3b0 : ((l0.length : Int) == (l1.length : Int)) = true := beq_iff_eq.mpr c3
    have c3b1 : ((l0.length : Int) != (l1.length : Int)) = false := bne_eq_false_iff_eq.mpr c3
    have c3b2 : (l0.length == l1.length) = true := by first | simpa using c3 | (simp at c3 ⊢; omega)
    clear c3
    have H' := Aside0.mk H
    clear H
    go_enter Tryd.func15, Tryd.ntmps15
    go_wp2
    repeat (go_quiet (fail); try go_wp2)
    go_loopg [5] k (fun kq v5 w' => ∃ (x5_1 : Int), v5 = .int .i64 x5_1 ∧ Aside0 (posthouseref7_Ints.l0 kq l0 l1 x5_1 = some r) ∧ Aside0 (kq ≤ k) ∧ Drawn0 w w')
    case atStart => exact ⟨(0), (by first | rfl | (simp; done) | (simp [*]; done)), H', ⟨Nat.le_refl _⟩, by repeat (first | exact Drawn0.refl _ | apply Drawn0.step)⟩
    case round =>
      clear H'
      try clear c1
      try clear p2
      try clear c3
      try clear c3b0
      try clear c3b1
      try clear c3b2
      obtain ⟨x5_1, rfl, HA, HK1, ⟨m1, rfl⟩⟩ := hrel
      cases gk with
      | zero => exact absurd HA.out (by simp [posthouseref7_Ints.l0])
      | succ k1 =>
        have H := HA.out
        clear HA
        simp only [posthouseref7_Ints.l0] at H
        by_cases c4 : x5_1 < (l0.length : Int)
        · rw [if_pos c4] at H
          have c4b0 : decide (x5_1 < (l0.length : Int)) = true := decide_eq_true c4
          clear c4
          by_cases c5 : 0 ≤ x5_1
          · rw [if_pos c5] at H
            have c5b0 : decide (0 ≤ x5_1) = true := decide_eq_true c5
            clear c5
            by_cases c6 : x5_1 < (l1.length : Int)
            · rw [if_pos c6] at H
              have c6b0 : decide (x5_1 < (l1.length : Int)) = true := decide_eq_true c6
              clear c6
              by_cases c7 : (rd l0 x5_1) = (rd l1 x5_1)
              · rw [if_pos c7] at H
                have c7b0 : ((rd l0 x5_1) == (rd l1 x5_1)) = true := beq_iff_eq.mpr c7
                have c7b1 : ((rd l0 x5_1) != (rd l1 x5_1)) = false := bne_eq_false_iff_eq.mpr c7
                clear c7
                have H' := Aside0.mk H
                clear H
                have p219 : 0 ≤ (x5_1 : Int) := of_decide_eq_true (by first | (with_reducible assumption) | assumption)
                have q219 : x5_1 < (l0.length : Int) := of_decide_eq_true (by first | (with_reducible assumption) | assumption)
                obtain ⟨ad219, e219, hx219_0⟩ := Kd.at_int HR0.out x5_1 p219 q219
                cases e219
                replace p219 := eq_true p219
                replace q219 := eq_true q219
                have p220 : 0 ≤ (x5_1 : Int) := of_decide_eq_true (by first | (with_reducible assumption) | assumption)
                have q220 : x5_1 < (l1.length : Int) := of_decide_eq_true (by first | (with_reducible assumption) | assumption)
                obtain ⟨ad220, e220, hx220_0⟩ := Kd.at_int HR1.out x5_1 p220 q220
                cases e220
                replace p220 := eq_true p220
                replace q220 := eq_true q220
                go_wp2
                repeat (go_quiet (fail); try go_wp2)
                go_roundg k1
                case measure => have := HK1.out; omega
                case rel => exact ⟨(wrap64 (x5_1 + 1)), (by first | rfl | (simp; done) | (simp [*]; done)), H', ⟨by have := HK1.out; omega⟩, by repeat (first | exact Drawn0.refl _ | apply Drawn0.step)⟩
              · rw [if_neg c7] at H
                have c7b0 : ((rd l0 x5_1) == (rd l1 x5_1)) = false := beq_eq_false_iff_ne.mpr c7
                have c7b1 : ((rd l0 x5_1) != (rd l1 x5_1)) = true := bne_iff_ne.mpr c7
                obtain rfl := Option.some.inj H
                have p219 : 0 ≤ (x5_1 : Int) := of_decide_eq_true (by first | (with_reducible assumption) | assumption)
                have q219 : x5_1 < (l0.length : Int) := of_decide_eq_true (by first | (with_reducible assumption) | assumption)
                obtain ⟨ad219, e219, hx219_0⟩ := Kd.at_int HR0.out x5_1 p219 q219
                cases e219
                replace p219 := eq_true p219
                replace q219 := eq_true q219
                have p220 : 0 ≤ (x5_1 : Int) := of_decide_eq_true (by first | (with_reducible assumption) | assumption)
                have q220 : x5_1 < (l1.length : Int) := of_decide_eq_true (by first | (with_reducible assumption) | assumption)
                obtain ⟨ad220, e220, hx220_0⟩ := Kd.at_int HR1.out x5_1 p220 q220
                cases e220
                replace p220 := eq_true p220
                replace q220 := eq_true q220
                go_wp2
                repeat (go_quiet (fail); try go_wp2)
                go_ret
                exact ⟨by first | rfl | (simp; done) | (simp [*]; done), by repeat (first | exact Drawn0.refl _ | apply Drawn0.step)⟩
            · rw [if_neg c6] at H
              exact absurd H (by simp)
          · rw [if_neg c5] at H
            exact absurd H (by simp)
        · rw [if_neg c4] at H
          have c4b0 : decide (x5_1 < (l0.length : Int)) = false := decide_eq_false c4
          clear c4
          obtain rfl := Option.some.inj H
          go_wp2
          repeat (go_quiet (fail); try go_wp2)
          go_ret
          exact ⟨by first | rfl | (simp; done) | (simp [*]; done), by repeat (first | exact Drawn0.refl _ | apply Drawn0.step)⟩
  · rw [if_neg c3] at H
    have c3b0 : ((l0.length : Int) == (l1.length : Int)) = false := beq_eq_false_iff_ne.mpr c3
    have c3b1 : ((l0.length : Int) != (l1.length : Int)) = true := bne_iff_ne.mpr c3
    have c3b2 : (l0.length == l1.length) = false := by first | simpa using c3 | (simp at c3 ⊢; omega)
    obtain rfl := Option.some.inj H
    go_enter Tryd.func15, Tryd.ntmps15
    go_wp2
    repeat (go_quiet (fail); try go_wp2)
    go_ret
    exact ⟨by first | rfl | (simp; done) | (simp [*]; done), by repeat (first | exact Drawn0.refl _ | apply Drawn0.step)⟩

end Go.Proofs.YtbolikomoenmaaaDoor.P
end
/- Functions of this seat as Lean functions, and that the Go code comes to their answers: written by a program of this session's. -/
section
namespace Go.Proofs.YtbolikomoenmaaaDoor.P
open Go.RowKit Go.Proofs.YtbolikomoenmaaaDoorW.PrintWords Go.Proofs.YtbolikomoenmaaaDoorW.PrintLast Go.Proofs.YtbolikomoenmaaaDoorW.PrintMore
attribute [local go_sem] max2_int min2_int max_two min_two max_three min_three max_four min_four   -- for this text's walks alone
set_option linter.unusedVariables false
set_option linter.unusedSimpArgs false

/-! ### posthouselaw8_quotaExample: function 6 -/
theorem eqLimit (d : Nat) (w : World) (x0 y0 : Int) (x1 y1 : Int) : (Op.equalIn (d + 2) 27 (.agg #[.int .i64 x0, .int .i64 x1]) (.agg #[.int .i64 y0, .int .i64 y1])).run Tryd.prog w = .ok (x0 == y0 && (x1 == y1)) w := by
  refine eqA_of Tryd.underlying27 (by kernel_rfl) ?_
  refine eqf_cons (by rfl) (by go_simp; rfl) (by go_simp; rfl) (by go_simp) ?_
  exact eqf_last (by rfl) (by go_simp; rfl) (by go_simp; rfl) (by go_simp)
attribute [local go_sem high] eqFault eqLimit
set_option maxHeartbeats 4000000 in
set_option maxRecDepth 100000 in
theorem quotaExample_any (k : Nat) (n m : Int) (fg fp : List (S70)) (bg bp : List Int) (t0 t1 t2 : Int) (t3 : List (S68)) (t4 : List (S72)) (x1 x2 x3 : Int) (lb : posthouselaw8_letter.f (⟨#[98]⟩ : ByteArray) = some (fg, bg)) (lc : posthouselaw8_letter.f (⟨#[99]⟩ : ByteArray) = some (fp, bp)) (lm : posthouseref8_MessageBytes.f k fg bg = some n) (hm : IntKind.i64.wrap (2 * n) = m) (lt : posthouselaw8_three.f = some (t0, t1, t2, t3, t4)) (lu : quota_Used.f k [(⟨t0, t1, t2, t3, t4⟩ : S25)] = some (n, 1, 0, x1)) (lf : quota_Fits.f k [(⟨t0, t1, t2, t3, t4⟩ : S25)] m 2 fp bp = some (true, 0, x2)) (le : quota_Excess.f k t0 t1 t2 t3 t4 0 0 = some ([2], 0, x3)) (li : posthouseref7_Ints.f k [2] [2] = some true) (h3 : decide (3 < n) = true) (w : World) :
    Calls Tryd.prog 6 #[] w fun e w' => e = .returned (.bool true) ∧ Below w.heap.size w w' := by
  have LB := Aside0.mk lb
  have LC := Aside0.mk lc
  have LM := Aside0.mk lm
  have LT := Aside0.mk lt
  have LU := Aside0.mk lu
  have LF := Aside0.mk lf
  have LE := Aside0.mk le
  have LI := Aside0.mk li
  clear lb lc lm lt lu lf le li
  have hu := Tryd.underlying25
  have hu2 := Tryd.underlying37
  have hfld := fieldFault_0
  have HB := Aside0.mk (Below.refl w.heap.size w)
  go_enter Tryd.func6, Tryd.ntmps6
  go_wp2_with fail
  refine (posthouselaw8_letter.calls _ fg bg _ LB.out).mono ?_
  rintro e w1 ⟨v0_, v1_, rfl, hv0_, hv1_, hb⟩
  obtain ⟨gC, gc, rfl⟩ := Kd.V_slice hv0_
  obtain ⟨gD, gd, rfl⟩ := Kd.V_slice hv1_
  have HLg := Aside0.mk hv0_
  have HKg := Aside0.mk hv1_
  clear hv0_ hv1_
  replace HB := Aside0.mk (below_step HB.out hb)
  clear hb
  go_wp2_with fail
  refine (posthouseref8_MessageBytes.calls k gC gc fg gD gd bg n _ (Kd.F_now (Kd.V_F HLg.out)) (Kd.V_at HLg.out).2.1 (Kd.F_now (Kd.V_F HKg.out)) (Kd.V_at HKg.out).2.1 LM.out).mono ?_
  rintro e w2 ⟨A9, n9, c9, rfl, hn9, hb⟩
  replace HLg := Aside0.mk (Kd.V_below HLg.out hb)
  replace HKg := Aside0.mk (Kd.V_below HKg.out hb)
  replace HB := Aside0.mk (below_step HB.out hb)
  clear hb
  clear HLg HKg
  subst hn9
  go_wp2_with fail
  refine (posthouselaw8_three.calls t0 t1 t2 t3 t4 _ LT.out).mono ?_
  rintro e w3 ⟨v3_, v4_, rfl, hv3_, hv4_, hb⟩
  obtain ⟨tA, ta, rfl⟩ := Kd.V_slice hv3_
  obtain ⟨tB, tb, rfl⟩ := Kd.V_slice hv4_
  have HtV := Aside0.mk hv3_
  have HtW := Aside0.mk hv4_
  clear hv3_ hv4_
  replace HB := Aside0.mk (below_step HB.out hb)
  clear hb
  go_wp2_with fail
  replace HtV := Aside0.mk (Kd.V_alloc HtV.out (.cells #[.int .i64 t0, .int .i64 t1, .int .i64 t2, .slice tA t3.length ta, .slice tB t4.length tb] 25))
  replace HtW := Aside0.mk (Kd.V_alloc HtW.out (.cells #[.int .i64 t0, .int .i64 t1, .int .i64 t2, .slice tA t3.length ta, .slice tB t4.length tb] 25))
  replace HB := Aside0.mk (below_alloc HB.out (.cells #[.int .i64 t0, .int .i64 t1, .int .i64 t2, .slice tA t3.length ta, .slice tB t4.length tb] 25))
  have HQ := Aside0.mk (blk_at (w := w3) (.cells #[.int .i64 t0, .int .i64 t1, .int .i64 t2, .slice tA t3.length ta, .slice tB t4.length tb] 25))
  have hs4 : (w3.alloc (.cells #[.int .i64 t0, .int .i64 t1, .int .i64 t2, .slice tA t3.length ta, .slice tB t4.length tb] 25)).heap.size = w3.heap.size + 1 := by simp
  generalize w3.alloc (.cells #[.int .i64 t0, .int .i64 t1, .int .i64 t2, .slice tA t3.length ta, .slice tB t4.length tb] 25) = X4 at *
  generalize w3.heap.size = q4 at *
  refine (quota_Used.calls k (some ⟨q4, 0, none⟩) 1 [(⟨t0, t1, t2, t3, t4⟩ : S25)] n9 1 0 x1 _ (C_one HQ.out rfl rfl (k25_mk _ (⟨t0, t1, t2, t3, t4⟩ : S25) (Kd.V_at HtV.out).2.1 (Kd.F_now (Kd.V_F HtV.out)) (Kd.V_at HtW.out).2.1 (Kd.F_now (Kd.V_F HtW.out)))) (Nat.le_refl _) LU.out).mono ?_
  rintro e w5 ⟨rfl, hb⟩
  replace HQ := Aside0.mk (blk_call HQ.out hb)
  replace HtV := Aside0.mk (Kd.V_below HtV.out hb)
  replace HtW := Aside0.mk (Kd.V_below HtW.out hb)
  replace HB := Aside0.mk (below_step HB.out hb)
  clear hb
  clear HQ HtV HtW
  go_wp2_with fail
  replace HB := Aside0.mk (below_alloc HB.out (.cells #[.int .i64 n9, .int .i64 1] 27))
  have HX := Aside0.mk (blk_at (w := w5) (.cells #[.int .i64 n9, .int .i64 1] 27))
  have hs5 : (w5.alloc (.cells #[.int .i64 n9, .int .i64 1] 27)).heap.size = w5.heap.size + 1 := by simp
  generalize w5.alloc (.cells #[.int .i64 n9, .int .i64 1] 27) = X5 at *
  generalize w5.heap.size = t5 at *
  have l1_t51 := blk_lt HX.out
  replace HX := Aside0.mk (blk_later HX.out (.cells #[.int .i64 0, .int .i64 x1] 34))
  replace HB := Aside0.mk (below_alloc HB.out (.cells #[.int .i64 0, .int .i64 x1] 34))
  have HE := Aside0.mk (blk_at (w := X5) (.cells #[.int .i64 0, .int .i64 x1] 34))
  rw [hs5] at HE l1_t51
  clear hs5
  generalize X5.alloc (.cells #[.int .i64 0, .int .i64 x1] 34) = X6 at *
  refine (posthouselaw8_three.calls t0 t1 t2 t3 t4 _ LT.out).mono ?_
  rintro e w7 ⟨v3_, v4_, rfl, hv3_, hv4_, hb⟩
  obtain ⟨tA, ta, rfl⟩ := Kd.V_slice hv3_
  obtain ⟨tB, tb, rfl⟩ := Kd.V_slice hv4_
  have HtV := Aside0.mk hv3_
  have HtW := Aside0.mk hv4_
  clear hv3_ hv4_
  replace HX := Aside0.mk (blk_call HX.out hb)
  replace HE := Aside0.mk (blk_call HE.out hb)
  replace HB := Aside0.mk (below_step HB.out hb)
  clear hb
  go_wp2_with fail
  have l2_q7 := blk_lt HX.out
  have l3_q7 := blk_lt HE.out
  replace HX := Aside0.mk (blk_later HX.out (.cells #[.int .i64 t0, .int .i64 t1, .int .i64 t2, .slice tA t3.length ta, .slice tB t4.length tb] 25))
  replace HE := Aside0.mk (blk_later HE.out (.cells #[.int .i64 t0, .int .i64 t1, .int .i64 t2, .slice tA t3.length ta, .slice tB t4.length tb] 25))
  replace HtV := Aside0.mk (Kd.V_alloc HtV.out (.cells #[.int .i64 t0, .int .i64 t1, .int .i64 t2, .slice tA t3.length ta, .slice tB t4.length tb] 25))
  replace HtW := Aside0.mk (Kd.V_alloc HtW.out (.cells #[.int .i64 t0, .int .i64 t1, .int .i64 t2, .slice tA t3.length ta, .slice tB t4.length tb] 25))
  replace HB := Aside0.mk (below_alloc HB.out (.cells #[.int .i64 t0, .int .i64 t1, .int .i64 t2, .slice tA t3.length ta, .slice tB t4.length tb] 25))
  have HQ := Aside0.mk (blk_at (w := w7) (.cells #[.int .i64 t0, .int .i64 t1, .int .i64 t2, .slice tA t3.length ta, .slice tB t4.length tb] 25))
  have hs7 : (w7.alloc (.cells #[.int .i64 t0, .int .i64 t1, .int .i64 t2, .slice tA t3.length ta, .slice tB t4.length tb] 25)).heap.size = w7.heap.size + 1 := by simp
  generalize w7.alloc (.cells #[.int .i64 t0, .int .i64 t1, .int .i64 t2, .slice tA t3.length ta, .slice tB t4.length tb] 25) = X8 at *
  generalize w7.heap.size = q7 at *
  refine (posthouselaw8_letter.calls _ fp bp _ LC.out).mono ?_
  rintro e w9 ⟨v0_, v1_, rfl, hv0_, hv1_, hb⟩
  obtain ⟨pC, pc, rfl⟩ := Kd.V_slice hv0_
  obtain ⟨pD, pd, rfl⟩ := Kd.V_slice hv1_
  have HLp := Aside0.mk hv0_
  have HKp := Aside0.mk hv1_
  clear hv0_ hv1_
  replace HX := Aside0.mk (blk_call HX.out hb)
  replace HE := Aside0.mk (blk_call HE.out hb)
  replace HQ := Aside0.mk (blk_call HQ.out hb)
  replace HtV := Aside0.mk (Kd.V_below HtV.out hb)
  replace HtW := Aside0.mk (Kd.V_below HtW.out hb)
  replace HB := Aside0.mk (below_step HB.out hb)
  clear hb
  go_wp2_with fail
  refine (quota_Fits.calls k (some ⟨q7, 0, none⟩) 1 [(⟨t0, t1, t2, t3, t4⟩ : S25)] m 2 pC pc fp pD pd bp true 0 x2 _ (C_one HQ.out rfl rfl (k25_mk _ (⟨t0, t1, t2, t3, t4⟩ : S25) (Kd.V_at HtV.out).2.1 (Kd.F_now (Kd.V_F HtV.out)) (Kd.V_at HtW.out).2.1 (Kd.F_now (Kd.V_F HtW.out)))) (Nat.le_refl _) (Kd.F_now (Kd.V_F HLp.out)) (Kd.V_at HLp.out).2.1 (Kd.F_now (Kd.V_F HKp.out)) (Kd.V_at HKp.out).2.1 LF.out).mono ?_
  rintro e w10 ⟨rfl, hb⟩
  replace HX := Aside0.mk (blk_call HX.out hb)
  replace HE := Aside0.mk (blk_call HE.out hb)
  replace HQ := Aside0.mk (blk_call HQ.out hb)
  replace HtV := Aside0.mk (Kd.V_below HtV.out hb)
  replace HtW := Aside0.mk (Kd.V_below HtW.out hb)
  replace HLp := Aside0.mk (Kd.V_below HLp.out hb)
  replace HKp := Aside0.mk (Kd.V_below HKp.out hb)
  replace HB := Aside0.mk (below_step HB.out hb)
  clear hb
  clear HQ HtV HtW HLp HKp
  go_wp2_with fail
  have l4_t10 := blk_lt HX.out
  have l5_t10 := blk_lt HE.out
  replace HX := Aside0.mk (blk_later HX.out (.cells #[.int .i64 0, .int .i64 x2] 34))
  replace HE := Aside0.mk (blk_later HE.out (.cells #[.int .i64 0, .int .i64 x2] 34))
  replace HB := Aside0.mk (below_alloc HB.out (.cells #[.int .i64 0, .int .i64 x2] 34))
  have HF := Aside0.mk (blk_at (w := w10) (.cells #[.int .i64 0, .int .i64 x2] 34))
  have hs10 : (w10.alloc (.cells #[.int .i64 0, .int .i64 x2] 34)).heap.size = w10.heap.size + 1 := by simp
  generalize w10.alloc (.cells #[.int .i64 0, .int .i64 x2] 34) = X11 at *
  generalize w10.heap.size = t10 at *
  refine (posthouselaw8_three.calls t0 t1 t2 t3 t4 _ LT.out).mono ?_
  rintro e w12 ⟨v3_, v4_, rfl, hv3_, hv4_, hb⟩
  obtain ⟨tA, ta, rfl⟩ := Kd.V_slice hv3_
  obtain ⟨tB, tb, rfl⟩ := Kd.V_slice hv4_
  have HtV := Aside0.mk hv3_
  have HtW := Aside0.mk hv4_
  clear hv3_ hv4_
  replace HX := Aside0.mk (blk_call HX.out hb)
  replace HE := Aside0.mk (blk_call HE.out hb)
  replace HF := Aside0.mk (blk_call HF.out hb)
  replace HB := Aside0.mk (below_step HB.out hb)
  clear hb
  go_wp2_with fail
  refine (quota_Excess.calls k t0 t1 t2 tA ta t3 tB tb t4 0 0 [2] 0 x3 _ (Kd.F_now (Kd.V_F HtV.out)) (Kd.V_at HtV.out).2.1 (Kd.F_now (Kd.V_F HtW.out)) (Kd.V_at HtW.out).2.1 LE.out).mono ?_
  rintro e w13 ⟨v_, rfl, hv, hb⟩
  obtain ⟨lA, la, rfl⟩ := Kd.R_slice hv
  have HlV := Aside0.mk (Kd.R_V (base' := 0) hv)
  clear hv
  replace HX := Aside0.mk (blk_call HX.out hb)
  replace HE := Aside0.mk (blk_call HE.out hb)
  replace HF := Aside0.mk (blk_call HF.out hb)
  replace HtV := Aside0.mk (Kd.V_below HtV.out hb)
  replace HtW := Aside0.mk (Kd.V_below HtW.out hb)
  replace HB := Aside0.mk (below_step HB.out hb)
  clear hb
  clear HtV HtW
  have kHX := bc1 HX.out
  have yHX := blk_lt HX.out
  have kHE := bc1 HE.out
  have yHE := blk_lt HE.out
  have kHF := bc1 HF.out
  have yHF := blk_lt HF.out
  have ilen : ([2] : List Int).length = 1 := rfl
  go_wp2_with fail
  clear kHX yHX kHE yHE kHF yHF
  have l6_t13 := blk_lt HX.out
  have l7_t13 := blk_lt HE.out
  have l8_t13 := blk_lt HF.out
  replace HX := Aside0.mk (blk_later HX.out (.cells #[.int .i64 0, .int .i64 x3] 34))
  replace HE := Aside0.mk (blk_later HE.out (.cells #[.int .i64 0, .int .i64 x3] 34))
  replace HF := Aside0.mk (blk_later HF.out (.cells #[.int .i64 0, .int .i64 x3] 34))
  replace HlV := Aside0.mk (Kd.V_alloc HlV.out (.cells #[.int .i64 0, .int .i64 x3] 34))
  replace HB := Aside0.mk (below_alloc HB.out (.cells #[.int .i64 0, .int .i64 x3] 34))
  have HG := Aside0.mk (blk_at (w := w13) (.cells #[.int .i64 0, .int .i64 x3] 34))
  have hs13 : (w13.alloc (.cells #[.int .i64 0, .int .i64 x3] 34)).heap.size = w13.heap.size + 1 := by simp
  generalize w13.alloc (.cells #[.int .i64 0, .int .i64 x3] 34) = X14 at *
  generalize w13.heap.size = t13 at *
  have l9_t131 := blk_lt HX.out
  have l10_t131 := blk_lt HE.out
  have l11_t131 := blk_lt HF.out
  have l12_t131 := blk_lt HG.out
  replace HX := Aside0.mk (blk_later HX.out (.cells #[.int .i64 2] 3))
  replace HE := Aside0.mk (blk_later HE.out (.cells #[.int .i64 2] 3))
  replace HF := Aside0.mk (blk_later HF.out (.cells #[.int .i64 2] 3))
  replace HG := Aside0.mk (blk_later HG.out (.cells #[.int .i64 2] 3))
  replace HlV := Aside0.mk (Kd.V_alloc HlV.out (.cells #[.int .i64 2] 3))
  replace HB := Aside0.mk (below_alloc HB.out (.cells #[.int .i64 2] 3))
  have HJ := Aside0.mk (blk_at (w := X14) (.cells #[.int .i64 2] 3))
  rw [hs13] at HJ l9_t131 l10_t131 l11_t131 l12_t131
  clear hs13
  generalize X14.alloc (.cells #[.int .i64 2] 3) = X15 at *
  refine (posthouseref7_Ints.calls k lA la [2] (some ⟨t13 + 1, 0, none⟩) 1 [2] true _ (Kd.F_now (Kd.V_F HlV.out)) (Kd.V_at HlV.out).2.1 (C_one HJ.out rfl rfl rfl) (Nat.le_refl _) LI.out).mono ?_
  rintro e w16 ⟨rfl, hd⟩
  have hb := hd.below
  replace HB := Aside0.mk (below_step HB.out hb)
  clear hb
  go_wp2
  go_ret
  exact ⟨rfl, HB.out⟩



end Go.Proofs.YtbolikomoenmaaaDoor.P
end
/- The example of the quota laws, reckoned. -/
section
namespace Go.Proofs.YtbolikomoenmaaaDoor.P
open Go.RowKit
def msgB : S31 := ⟨[⟨⟨#[83, 117, 98, 106, 101, 99, 116]⟩, ⟨#[98]⟩⟩], [120, 13, 10]⟩
def msgC : S31 := ⟨[⟨⟨#[83, 117, 98, 106, 101, 99, 116]⟩, ⟨#[99]⟩⟩], [120, 13, 10]⟩
theorem letter_b : posthouselaw8_letter.f (⟨#[98]⟩ : ByteArray) = some (msgB.f0, msgB.f1) := by kernel_rfl
theorem letter_c : posthouselaw8_letter.f (⟨#[99]⟩ : ByteArray) = some (msgC.f0, msgC.f1) := by kernel_rfl
theorem bytes_b : posthouseref8_MessageBytes.f 100 msgB.f0 msgB.f1 = some 17 := by kernel_rfl
theorem three_is : posthouselaw8_three.f = some (3, 5, 0, [⟨2, 3, 1, 9, msgB⟩], [⟨1, 4⟩]) := by kernel_rfl
theorem used_t : quota_Used.f 100 [⟨3, 5, 0, [⟨2, 3, 1, 9, msgB⟩], [⟨1, 4⟩]⟩] = some (17, 1, 0, 0) := by kernel_rfl
theorem fits_t : quota_Fits.f 100 [⟨3, 5, 0, [⟨2, 3, 1, 9, msgB⟩], [⟨1, 4⟩]⟩] 34 2 msgC.f0 msgC.f1 = some (true, 0, 0) := by kernel_rfl
theorem excess_t : quota_Excess.f 100 3 5 0 [⟨2, 3, 1, 9, msgB⟩] [⟨1, 4⟩] 0 0 = some ([2], 0, 0) := by kernel_rfl
theorem ints_t : posthouseref7_Ints.f 100 [2] [2] = some true := by kernel_rfl
/-- The example holds. -/
theorem quotaExample_true (w : World) : Calls Tryd.prog 6 #[] w fun e w' => e = .returned (.bool true) ∧ Below w.heap.size w w' :=
  quotaExample_any 100 17 34 msgB.f0 msgC.f0 msgB.f1 msgC.f1 3 5 0 [⟨2, 3, 1, 9, msgB⟩] [⟨1, 4⟩] 0 0 0 letter_b letter_c bytes_b (by decide +kernel) three_is used_t fits_t excess_t ints_t (by decide) w
end Go.Proofs.YtbolikomoenmaaaDoor.P
end
