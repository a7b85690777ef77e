/- Several texts in one, each in its own section. The last: Functions of this seat as Lean functions, and that the Go code comes to their answers: written by a program of this session's. -/
import Derived.Test.YtlaglkcgmhgacaaDoorFc10
import Derived.Test.YtlaglkcgmhgacaaDoorFc26
/- Functions of this seat as Lean functions, and that the Go code comes to their answers: written by a program of this session's. -/
section
namespace Go.Proofs.YtlaglkcgmhgacaaDoor.P
open Go.RowKit Go.Proofs.YtlaglkcgmhgacaaDoorW.PrintWords Go.Proofs.YtlaglkcgmhgacaaDoorW.PrintLast Go.Proofs.YtlaglkcgmhgacaaDoorW.PrintMore
attribute [local go_sem] max2_int min2_int max_two min_two max_three min_three max_four min_four   -- for this text's walks alone
set_option linter.unusedVariables false
set_option linter.unusedSimpArgs false

/-! ### posthouseref8_SameMessage: function 32 -/
def eqFieldB (a b : S77) : Bool := a.f0.toList == b.f0.toList && (a.f1.toList == b.f1.toList)
def eqMessage (a b : S29) : Bool := decide (a.f0.length = b.f0.length) && ((strOfNums a.f1).toList == (strOfNums b.f1).toList && allEq eqFieldB a.f0 b.f0)
def posthouseref8_SameMessage.f (l0_0 : List (S77)) (l0_1 : List Int) (l1_0 : List (S77)) (l1_1 : List Int) : Option (Bool) := some (eqMessage ⟨l0_0, l0_1⟩ ⟨l1_0, l1_1⟩)
attribute [local go_sem high] eqField
set_option maxHeartbeats 2000000 in
set_option maxRecDepth 100000 in
theorem posthouseref8_SameMessage.calls (A0_0 : Option Addr) (c0_0 : Nat) (l0_0 : List (S77)) (A0_1 : Option Addr) (c0_1 : Nat) (l0_1 : List Int) (A1_0 : Option Addr) (c1_0 : Nat) (l1_0 : List (S77)) (A1_1 : Option Addr) (c1_1 : Nat) (l1_1 : List Int) (r : Bool) (w : World) (hr0_0 : Kd.C k77 w A0_0 l0_0.length l0_0) (hc0_0 : l0_0.length ≤ c0_0) (hr0_1 : Kd.C (Kd.int .u8) w A0_1 l0_1.length l0_1) (hc0_1 : l0_1.length ≤ c0_1) (hr1_0 : Kd.C k77 w A1_0 l1_0.length l1_0) (hc1_0 : l1_0.length ≤ c1_0) (hr1_1 : Kd.C (Kd.int .u8) w A1_1 l1_1.length l1_1) (hc1_1 : l1_1.length ≤ c1_1) (h : posthouseref8_SameMessage.f l0_0 l0_1 l1_0 l1_1 = some r) :
    Calls Tryd.prog 32 #[.agg #[.slice A0_0 l0_0.length c0_0, .slice A0_1 l0_1.length c0_1], .agg #[.slice A1_0 l1_0.length c1_0, .slice A1_1 l1_1.length c1_1]] w fun e w' => e = .returned (.bool r) ∧ Below w.heap.size w w' := by
  obtain rfl : eqMessage ⟨l0_0, l0_1⟩ ⟨l1_0, l1_1⟩ = r := by simpa [posthouseref8_SameMessage.f] using h
  clear h
  have n0 := hr0_0.2.1
  have HA := Aside0.mk hr0_0
  have HB := Aside0.mk hr1_0
  have HA1 := Aside0.mk hr0_1
  have HB1 := Aside0.mk hr1_1
  clear hr0_0 hr1_0 hr0_1 hr1_1
  have hq : posthouseref7_Same.f l0_1 l1_1 = some ((strOfNums l0_1).toList == (strOfNums l1_1).toList) := rfl
  unfold eqMessage
  dsimp only
  generalize ((strOfNums l0_1).toList == (strOfNums l1_1).toList) = sb at *
  have HQ := Aside0.mk hq
  clear hq
  by_cases c1 : l0_0.length = l1_0.length
  · have hlen := Aside0.mk c1
    have d1 : (l0_0.length == l1_0.length) = true := beq_iff_eq.2 c1
    have d1' : (l0_0.length != l1_0.length) = false := bne_eq_false_iff_eq.2 c1
    have d2 : ((l0_0.length : Int) == (l1_0.length : Int)) = true := beq_iff_eq.2 (by omega)
    have d2' : ((l0_0.length : Int) != (l1_0.length : Int)) = false := bne_eq_false_iff_eq.2 (by omega)
    have d3 : (!(l0_0.length == l1_0.length)) = false := by simpa using c1
    rw [decide_eq_true c1, Bool.true_and]
    clear c1
    cases sb
    · go_enter Tryd.func32, Tryd.ntmps32
      go_wp2_with (first | (go_at_call 45; (with_reducible refine (posthouseref7_Same.calls _ _ l0_1 _ _ l1_1 _ _ ?s1 hc0_1 ?s2 hc1_1 HQ.out).mono ?_); (case s1 => exact Kd.C_below HA1.out (below_alloc (below_alloc (Below.refl _ _) _) _)); (case s2 => exact Kd.C_below HB1.out (below_alloc (below_alloc (Below.refl _ _) _) _)); rintro e w2 ⟨rfl, ⟨m, rfl⟩⟩))
      go_ret
      exact ⟨rfl, by repeat (first | exact Below.refl _ _ | apply below_alloc | apply pw_below_drewN)⟩
    · rw [Bool.true_and]
      go_enter Tryd.func32, Tryd.ntmps32
      go_wp2_with (first | (go_at_call 45; (with_reducible refine (posthouseref7_Same.calls _ _ l0_1 _ _ l1_1 _ _ ?s1 hc0_1 ?s2 hc1_1 HQ.out).mono ?_); (case s1 => exact Kd.C_below HA1.out (below_alloc (below_alloc (Below.refl _ _) _) _)); (case s2 => exact Kd.C_below HB1.out (below_alloc (below_alloc (Below.refl _ _) _) _)); rintro e w2 ⟨rfl, ⟨m, rfl⟩⟩))
      go_loopg [5] l0_0.length (fun gg v5 W => ∃ i : Nat, i ≤ l0_0.length ∧ l0_0.length - i ≤ gg ∧ v5 = .int .i64 i ∧ Aside0 (∀ (j : Nat) x y, j < i → l0_0[j]? = some x → l1_0[j]? = some y → eqFieldB x y = true) ∧ Aside0 (∃ n, W = ((w.alloc (.cells #[.slice A0_0 l0_0.length c0_0, .slice A0_1 l0_1.length c0_1] 29)).alloc (.cells #[.slice A1_0 l1_0.length c1_0, .slice A1_1 l1_1.length c1_1] 29)).drewN n))
      case atStart => exact ⟨0, Nat.zero_le _, Nat.le_refl _, rfl, ⟨fun j x y hj => absurd hj (Nat.not_lt_zero _)⟩, ⟨_, rfl⟩⟩
      case round =>
        obtain ⟨i, hi, hg, rfl, HE, ⟨⟨n, rfl⟩⟩⟩ := hrel
        by_cases hlt : i < l0_0.length
        · have hle := hlen.out
          obtain ⟨ad, e1, p0, p1⟩ := at_T77 HA.out (i : Int) (by omega) (by omega)
          obtain ⟨ad', e2, q0, q1⟩ := at_T77 HB.out (i : Int) (by omega) (by omega)
          subst e1 e2
          simp only [Int.toNat_natCast] at p0 p1 q0 q1
          replace p0 := cell2 p0
          replace p1 := cell2 p1
          replace q0 := cell2 q0
          replace q1 := cell2 q1
          have hi2 : (i : Int) < l1_0.length := by omega
          have G1 := Aside0.mk (getD_some z77 hlt)
          have G2 := Aside0.mk (getD_some z77 (show i < l1_0.length by omega))
          have hx : rd_T77 l0_0 i = l0_0.getD i z77 := by simp [rd_T77]
          have hy : rd_T77 l1_0 i = l1_0.getD i z77 := by simp [rd_T77]
          rw [hx] at p0 p1
          rw [hy] at q0 q1
          clear hx hy hle
          generalize l0_0.getD i z77 = x at *
          generalize l1_0.getD i z77 = y at *
          have hE : eqFieldB x y = (x.f0.toList == y.f0.toList && (x.f1.toList == y.f1.toList)) := rfl
          cases ha : (x.f0.toList == y.f0.toList)
          · have HF := Aside0.mk (show eqFieldB x y = false by rw [hE, ha]; rfl)
            clear hE
            go_wp2
            go_quiet (fail)
            go_wp2
            go_ret
            exact ⟨by rw [allEq_false G1.out G2.out HF.out]; rfl, by repeat (first | exact Below.refl _ _ | apply below_alloc | apply pw_below_drewN)⟩
          cases hb : (x.f1.toList == y.f1.toList)
          · have HF := Aside0.mk (show eqFieldB x y = false by rw [hE, ha, hb]; rfl)
            clear hE
            go_wp2
            go_quiet (fail)
            go_wp2
            go_ret
            exact ⟨by rw [allEq_false G1.out G2.out HF.out]; rfl, by repeat (first | exact Below.refl _ _ | apply below_alloc | apply pw_below_drewN)⟩
          · have HF := Aside0.mk (show eqFieldB x y = true by rw [hE, ha, hb]; rfl)
            clear hE
            go_wp2
            go_quiet (fail)
            go_wp2
            go_roundg (l0_0.length - (i + 1))
            case measure => omega
            case rel =>
              refine ⟨i + 1, by omega, by omega, by go_num, ⟨fun j a b hj h1 h2 => ?_⟩, ⟨⟨_, rfl⟩⟩⟩
              by_cases e : j = i
              · subst e
                rw [G1.out] at h1
                rw [G2.out] at h2
                cases h1
                cases h2
                exact HF.out
              · exact HE.out j a b (by omega) h1 h2
        · go_wp2
          go_ret
          exact ⟨by rw [allEq_true (fun j x y h1 h2 => HE.out j x y (by have := (List.getElem?_eq_some_iff.1 h1).1; omega) h1 h2)]; rfl, by repeat (first | exact Below.refl _ _ | apply below_alloc | apply pw_below_drewN)⟩
  · have d1 : (l0_0.length == l1_0.length) = false := beq_eq_false_iff_ne.2 c1
    have d1' : (l0_0.length != l1_0.length) = true := bne_iff_ne.2 c1
    have d2 : ((l0_0.length : Int) == (l1_0.length : Int)) = false := beq_eq_false_iff_ne.2 (by omega)
    have d2' : ((l0_0.length : Int) != (l1_0.length : Int)) = true := bne_iff_ne.2 (by omega)
    have d3 : (!(l0_0.length == l1_0.length)) = true := by simpa using c1
    rw [decide_eq_false c1]
    clear c1
    go_enter Tryd.func32, Tryd.ntmps32
    go_wp2
    go_ret
    exact ⟨rfl, by repeat (first | exact Below.refl _ _ | apply below_alloc | apply pw_below_drewN)⟩


end Go.Proofs.YtlaglkcgmhgacaaDoor.P
end
/- Functions of this seat as Lean functions, and that the Go code comes to their answers: written by a program of this session's. -/
section
namespace Go.Proofs.YtlaglkcgmhgacaaDoor.P
open Go.RowKit Go.Proofs.YtlaglkcgmhgacaaDoorW.PrintWords Go.Proofs.YtlaglkcgmhgacaaDoorW.PrintLast Go.Proofs.YtlaglkcgmhgacaaDoorW.PrintMore
attribute [local go_sem] max2_int min2_int max_two min_two max_three min_three max_four min_four   -- for this text's walks alone
set_option linter.unusedVariables false
set_option linter.unusedSimpArgs false

/-! ### posthouseref8_SameBox: function 11 -/
def eqStored (a b : S58) : Bool := a.f0 == b.f0 && (a.f1 == b.f1 && (a.f2 == b.f2 && (a.f3 == b.f3 && eqMessage a.f4 b.f4)))
def eqGoneB (a b : S61) : Bool := a.f0 == b.f0 && (a.f1 == b.f1)
def posthouseref8_SameBox.f (a0_0 : Int) (a0_1 : Int) (a0_2 : Int) (l0_3 : List (S58)) (l0_4 : List (S61)) (a1_0 : Int) (a1_1 : Int) (a1_2 : Int) (l1_3 : List (S58)) (l1_4 : List (S61)) : Option (Bool) :=
  some (a0_0 == a1_0 && (a0_1 == a1_1 && (a0_2 == a1_2 && (l0_3.length == l1_3.length && (l0_4.length == l1_4.length && (allEq eqStored l0_3 l1_3 && allEq eqGoneB l0_4 l1_4))))))
attribute [local go_sem high] eqGone
set_option maxHeartbeats 4000000 in
set_option maxRecDepth 100000 in
theorem posthouseref8_SameBox.calls (a0_0 : Int) (a0_1 : Int) (a0_2 : Int) (A0_3 : Option Addr) (c0_3 : Nat) (l0_3 : List (S58)) (A0_4 : Option Addr) (c0_4 : Nat) (l0_4 : List (S61)) (a1_0 : Int) (a1_1 : Int) (a1_2 : Int) (A1_3 : Option Addr) (c1_3 : Nat) (l1_3 : List (S58)) (A1_4 : Option Addr) (c1_4 : Nat) (l1_4 : List (S61)) (r : Bool) (w : World) (hr0_3 : Kd.C k58 w A0_3 l0_3.length l0_3) (hc0_3 : l0_3.length ≤ c0_3) (hr0_4 : Kd.C k61 w A0_4 l0_4.length l0_4) (hc0_4 : l0_4.length ≤ c0_4) (hr1_3 : Kd.C k58 w A1_3 l1_3.length l1_3) (hc1_3 : l1_3.length ≤ c1_3) (hr1_4 : Kd.C k61 w A1_4 l1_4.length l1_4) (hc1_4 : l1_4.length ≤ c1_4) (h : posthouseref8_SameBox.f a0_0 a0_1 a0_2 l0_3 l0_4 a1_0 a1_1 a1_2 l1_3 l1_4 = some r) :
    Calls Tryd.prog 11 #[.agg #[.int .i64 a0_0, .int .i64 a0_1, .int .i64 a0_2, .slice A0_3 l0_3.length c0_3, .slice A0_4 l0_4.length c0_4], .agg #[.int .i64 a1_0, .int .i64 a1_1, .int .i64 a1_2, .slice A1_3 l1_3.length c1_3, .slice A1_4 l1_4.length c1_4]] w fun e w' => e = .returned (.bool r) ∧ Below w.heap.size w w' := by
  unfold posthouseref8_SameBox.f at h
  have n0 := hr0_3.2.1
  have n1 := hr0_4.2.1
  have HA := Aside0.mk hr0_3
  have HB := Aside0.mk hr1_3
  have HA1 := Aside0.mk hr0_4
  have HB1 := Aside0.mk hr1_4
  clear hr0_3 hr0_4 hr1_3 hr1_4
  cases h
  by_cases c : a0_0 = a1_0
  rotate_left
  · have d1 : (a0_0 == a1_0) = false := beq_eq_false_iff_ne.2 c
    have d2 : (a0_0 != a1_0) = true := bne_iff_ne.2 c
    rw [d1, Bool.false_and]
    skip
    clear c
    go_enter Tryd.func11, Tryd.ntmps11
    go_wp2
    go_ret
    exact ⟨rfl, by repeat (first | exact Below.refl _ _ | apply below_alloc | apply pw_below_drewN)⟩
  subst c
  rw [beq_self_eq_true, Bool.true_and]
  have e0b : (a0_0 != a0_0) = false := bne_self_eq_false _
  by_cases c : a0_1 = a1_1
  rotate_left
  · have d1 : (a0_1 == a1_1) = false := beq_eq_false_iff_ne.2 c
    have d2 : (a0_1 != a1_1) = true := bne_iff_ne.2 c
    rw [d1, Bool.false_and]
    skip
    clear c
    go_enter Tryd.func11, Tryd.ntmps11
    go_wp2
    go_ret
    exact ⟨rfl, by repeat (first | exact Below.refl _ _ | apply below_alloc | apply pw_below_drewN)⟩
  subst c
  rw [beq_self_eq_true, Bool.true_and]
  have e1b : (a0_1 != a0_1) = false := bne_self_eq_false _
  by_cases c : a0_2 = a1_2
  rotate_left
  · have d1 : (a0_2 == a1_2) = false := beq_eq_false_iff_ne.2 c
    have d2 : (a0_2 != a1_2) = true := bne_iff_ne.2 c
    rw [d1, Bool.false_and]
    skip
    clear c
    go_enter Tryd.func11, Tryd.ntmps11
    go_wp2
    go_ret
    exact ⟨rfl, by repeat (first | exact Below.refl _ _ | apply below_alloc | apply pw_below_drewN)⟩
  subst c
  rw [beq_self_eq_true, Bool.true_and]
  have e2b : (a0_2 != a0_2) = false := bne_self_eq_false _
  by_cases c : l0_3.length = l1_3.length
  rotate_left
  · have d1 : (l0_3.length == l1_3.length) = false := beq_eq_false_iff_ne.2 c
    have d2 : (l0_3.length != l1_3.length) = true := bne_iff_ne.2 c
    have d3 : ((l0_3.length : Int) == (l1_3.length : Int)) = false := beq_eq_false_iff_ne.2 (by omega)
    have d4 : ((l0_3.length : Int) != (l1_3.length : Int)) = true := bne_iff_ne.2 (by omega)
    have d5 : (!(l0_3.length == l1_3.length)) = true := by rw [d1]; rfl
    rw [d1, Bool.false_and]
    skip
    clear c
    go_enter Tryd.func11, Tryd.ntmps11
    go_wp2
    go_ret
    exact ⟨rfl, by repeat (first | exact Below.refl _ _ | apply below_alloc | apply pw_below_drewN)⟩
  have e3a : (l0_3.length == l1_3.length) = true := beq_iff_eq.2 c
  have e3b : (l0_3.length != l1_3.length) = false := bne_eq_false_iff_eq.2 c
  have e3c : ((l0_3.length : Int) == (l1_3.length : Int)) = true := beq_iff_eq.2 (by omega)
  have e3d : ((l0_3.length : Int) != (l1_3.length : Int)) = false := bne_eq_false_iff_eq.2 (by omega)
  have e3e : (!(l0_3.length == l1_3.length)) = false := by rw [e3a]; rfl
  have hlen3 := Aside0.mk c
  rw [e3a, Bool.true_and]
  clear c
  by_cases c : l0_4.length = l1_4.length
  rotate_left
  · have d1 : (l0_4.length == l1_4.length) = false := beq_eq_false_iff_ne.2 c
    have d2 : (l0_4.length != l1_4.length) = true := bne_iff_ne.2 c
    have d3 : ((l0_4.length : Int) == (l1_4.length : Int)) = false := beq_eq_false_iff_ne.2 (by omega)
    have d4 : ((l0_4.length : Int) != (l1_4.length : Int)) = true := bne_iff_ne.2 (by omega)
    have d5 : (!(l0_4.length == l1_4.length)) = true := by rw [d1]; rfl
    rw [d1, Bool.false_and]
    skip
    clear c
    go_enter Tryd.func11, Tryd.ntmps11
    go_wp2
    go_ret
    exact ⟨rfl, by repeat (first | exact Below.refl _ _ | apply below_alloc | apply pw_below_drewN)⟩
  have e4a : (l0_4.length == l1_4.length) = true := beq_iff_eq.2 c
  have e4b : (l0_4.length != l1_4.length) = false := bne_eq_false_iff_eq.2 c
  have e4c : ((l0_4.length : Int) == (l1_4.length : Int)) = true := beq_iff_eq.2 (by omega)
  have e4d : ((l0_4.length : Int) != (l1_4.length : Int)) = false := bne_eq_false_iff_eq.2 (by omega)
  have e4e : (!(l0_4.length == l1_4.length)) = false := by rw [e4a]; rfl
  have hlen4 := Aside0.mk c
  rw [e4a, Bool.true_and]
  clear c
  go_enter Tryd.func11, Tryd.ntmps11
  go_wp2
  go_loopg [5] l0_3.length (fun gg v5 W => ∃ i : Nat, i ≤ l0_3.length ∧ l0_3.length - i ≤ gg ∧ v5 = .int .i64 i ∧ Aside0 (∀ (j : Nat) x y, j < i → l0_3[j]? = some x → l1_3[j]? = some y → eqStored x y = true) ∧ Aside0 (Below w.heap.size w W) ∧ Aside0 (W.heap[w.heap.size]? = some (.cells #[.int .i64 a0_0, .int .i64 a0_1, .int .i64 a0_2, .slice A0_3 l0_3.length c0_3, .slice A0_4 l0_4.length c0_4] 25 (0, 0))) ∧ Aside0 (W.heap[w.heap.size + 1]? = some (.cells #[.int .i64 a0_0, .int .i64 a0_1, .int .i64 a0_2, .slice A1_3 l1_3.length c1_3, .slice A1_4 l1_4.length c1_4] 25 (0, 0))))
  case atStart => exact ⟨0, Nat.zero_le _, Nat.le_refl _, rfl, ⟨fun j x y hj => absurd hj (Nat.not_lt_zero _)⟩, ⟨below_alloc (below_alloc (Below.refl _ _) _) _⟩, ⟨blk_later (blk_at _) _⟩, ⟨blk_at1 _ _⟩⟩
  case round =>
  obtain ⟨i, hi, hg, rfl, HE, HW, HX, HY⟩ := hrel
  have kx := bc0 HX.out
  have kx1 := bc1 HX.out
  have kx2 := bc2 HX.out
  have ky := bc0 HY.out
  have ky1 := bc1 HY.out
  have ky2 := bc2 HY.out
  by_cases hlt : i < l0_3.length
  · have hle := hlen3.out
    obtain ⟨ad, A4, c4, A5, c5, q, q0, q1, q2, q3, q4, q5, l4, g4, l5, g5⟩ := at_T58 (Kd.C_below HA.out HW.out) (i : Int) (by omega) (by omega)
    obtain ⟨ad', B4, b4, B5, b5, q', p0, p1, p2, p3, p4, p5, m4, h4, m5, h5⟩ := at_T58 (Kd.C_below HB.out HW.out) (i : Int) (by omega) (by omega)
    subst q q'
    simp only [Int.toNat_natCast] at q0 q1 q2 q3 q4 q5 p0 p1 p2 p3 p4 p5
    replace p0 := cell1 p0
    replace p1 := cell1 p1
    replace p2 := cell1 p2
    replace p3 := cell1 p3
    replace p4 := cell1 p4
    replace p5 := cell1 p5
    have hi2 : (i : Int) < l1_3.length := by omega
    have G1 := Aside0.mk (getD_some z58 hlt)
    have G2 := Aside0.mk (getD_some z58 (show i < l1_3.length by omega))
    have hx : rd_T58 l0_3 i = l0_3.getD i z58 := by simp [rd_T58]
    have hy : rd_T58 l1_3 i = l1_3.getD i z58 := by simp [rd_T58]
    rw [hx] at q0 q1 q2 q3 q4 q5 g4 l4 g5 l5
    rw [hy] at p0 p1 p2 p3 p4 p5 h4 m4 h5 m5
    clear hx hy hle
    generalize l0_3.getD i z58 = x at *
    generalize l1_3.getD i z58 = y at *
    have hE : eqStored x y = (x.f0 == y.f0 && (x.f1 == y.f1 && (x.f2 == y.f2 && (x.f3 == y.f3 && eqMessage x.f4 y.f4)))) := rfl
    have HG4 := Aside0.mk g4
    have HG5 := Aside0.mk g5
    have HH4 := Aside0.mk h4
    have HH5 := Aside0.mk h5
    clear g4 g5 h4 h5
    by_cases c0 : x.f0 = y.f0
    rotate_left
    · have d1 : (x.f0 == y.f0) = false := beq_eq_false_iff_ne.2 c0
      have d2 : (x.f0 != y.f0) = true := bne_iff_ne.2 c0
      have HF := Aside0.mk (show eqStored x y = false by rw [hE, d1]; rfl)
      clear hE c0
      go_wp2
      go_ret
      exact ⟨by rw [allEq_false G1.out G2.out HF.out]; rfl, by repeat (first | exact HW.out | apply below_alloc | apply pw_below_drewN)⟩
    have t0a : (x.f0 == y.f0) = true := beq_iff_eq.2 c0
    have t0b : (x.f0 != y.f0) = false := bne_eq_false_iff_eq.2 c0
    clear c0
    by_cases c1 : x.f1 = y.f1
    rotate_left
    · have d1 : (x.f1 == y.f1) = false := beq_eq_false_iff_ne.2 c1
      have d2 : (x.f1 != y.f1) = true := bne_iff_ne.2 c1
      have HF := Aside0.mk (show eqStored x y = false by rw [hE, t0a, d1]; rfl)
      clear hE c1
      go_wp2
      go_ret
      exact ⟨by rw [allEq_false G1.out G2.out HF.out]; rfl, by repeat (first | exact HW.out | apply below_alloc | apply pw_below_drewN)⟩
    have t1a : (x.f1 == y.f1) = true := beq_iff_eq.2 c1
    have t1b : (x.f1 != y.f1) = false := bne_eq_false_iff_eq.2 c1
    clear c1
    by_cases c2 : x.f2 = y.f2
    rotate_left
    · have d1 : (x.f2 == y.f2) = false := beq_eq_false_iff_ne.2 c2
      have d2 : (x.f2 != y.f2) = true := bne_iff_ne.2 c2
      have HF := Aside0.mk (show eqStored x y = false by rw [hE, t0a, t1a, d1]; rfl)
      clear hE c2
      go_wp2
      go_ret
      exact ⟨by rw [allEq_false G1.out G2.out HF.out]; rfl, by repeat (first | exact HW.out | apply below_alloc | apply pw_below_drewN)⟩
    have t2a : (x.f2 == y.f2) = true := beq_iff_eq.2 c2
    have t2b : (x.f2 != y.f2) = false := bne_eq_false_iff_eq.2 c2
    clear c2
    by_cases c3 : x.f3 = y.f3
    rotate_left
    · have d1 : (x.f3 == y.f3) = false := beq_eq_false_iff_ne.2 c3
      have d2 : (x.f3 != y.f3) = true := bne_iff_ne.2 c3
      have HF := Aside0.mk (show eqStored x y = false by rw [hE, t0a, t1a, t2a, d1]; rfl)
      clear hE c3
      go_wp2
      go_ret
      exact ⟨by rw [allEq_false G1.out G2.out HF.out]; rfl, by repeat (first | exact HW.out | apply below_alloc | apply pw_below_drewN)⟩
    have t3a : (x.f3 == y.f3) = true := beq_iff_eq.2 c3
    have t3b : (x.f3 != y.f3) = false := bne_eq_false_iff_eq.2 c3
    clear c3
    have hq : posthouseref8_SameMessage.f x.f4.f0 x.f4.f1 y.f4.f0 y.f4.f1 = some (eqMessage x.f4 y.f4) := rfl
    cases hm : eqMessage x.f4 y.f4
    · have HF := Aside0.mk (show eqStored x y = false by rw [hE, t0a, t1a, t2a, t3a, hm]; rfl)
      rw [hm] at hq
      have HQ := Aside0.mk hq
      clear hE hm hq
      go_wp2_with (first | (go_at_call 32; (with_reducible refine (posthouseref8_SameMessage.calls _ _ x.f4.f0 _ _ x.f4.f1 _ _ y.f4.f0 _ _ y.f4.f1 _ _ ?s1 l4 ?s2 l5 ?s3 m4 ?s4 m5 HQ.out).mono ?_); (case s1 => exact Kd.C_below HG4.out (below_alloc (below_alloc (Below.refl _ _) _) _)); (case s2 => exact Kd.C_below HG5.out (below_alloc (below_alloc (Below.refl _ _) _) _)); (case s3 => exact Kd.C_below HH4.out (below_alloc (below_alloc (Below.refl _ _) _) _)); (case s4 => exact Kd.C_below HH5.out (below_alloc (below_alloc (Below.refl _ _) _) _)); rintro e w2 ⟨rfl, hb⟩))
      go_ret
      exact ⟨by rw [allEq_false G1.out G2.out HF.out]; rfl, below_step (below_alloc (below_alloc HW.out _) _) hb⟩
    · have HF := Aside0.mk (show eqStored x y = true by rw [hE, t0a, t1a, t2a, t3a, hm]; rfl)
      rw [hm] at hq
      have HQ := Aside0.mk hq
      clear hE hm hq
      go_wp2_with (first | (go_at_call 32; (with_reducible refine (posthouseref8_SameMessage.calls _ _ x.f4.f0 _ _ x.f4.f1 _ _ y.f4.f0 _ _ y.f4.f1 _ _ ?s1 l4 ?s2 l5 ?s3 m4 ?s4 m5 HQ.out).mono ?_); (case s1 => exact Kd.C_below HG4.out (below_alloc (below_alloc (Below.refl _ _) _) _)); (case s2 => exact Kd.C_below HG5.out (below_alloc (below_alloc (Below.refl _ _) _) _)); (case s3 => exact Kd.C_below HH4.out (below_alloc (below_alloc (Below.refl _ _) _) _)); (case s4 => exact Kd.C_below HH5.out (below_alloc (below_alloc (Below.refl _ _) _) _)); rintro e w2 ⟨rfl, hb⟩))
      go_roundg (l0_3.length - (i + 1))
      case measure => omega
      case rel =>
        refine ⟨i + 1, by omega, by omega, by go_num, ⟨fun j a b hj h1 h2 => ?_⟩, ⟨below_step (below_alloc (below_alloc HW.out _) _) hb⟩, ⟨blk_call (blk_later (blk_later HX.out _) _) hb⟩, ⟨blk_call (blk_later (blk_later HY.out _) _) hb⟩⟩
        by_cases e : j = i
        · subst e
          rw [G1.out] at h1
          rw [G2.out] at h2
          cases h1
          cases h2
          exact HF.out
        · exact HE.out j a b (by omega) h1 h2
  · obtain ⟨W0, hW0⟩ : ∃ W0 : World, W0 = wr := ⟨_, rfl⟩
    subst hW0
    have HE' := Aside0.mk (allEq_true (p := eqStored) (xs := l0_3) (ys := l1_3) (fun j x y h1 h2 => HE.out j x y (by have := (List.getElem?_eq_some_iff.1 h1).1; omega) h1 h2))
    go_wp2
    clear kx kx1 kx2 ky ky1 ky2 hlt hg hi HE
    go_loopg [8] l0_4.length (fun gg v8 W => ∃ i : Nat, i ≤ l0_4.length ∧ l0_4.length - i ≤ gg ∧ v8 = .int .i64 i ∧ Aside0 (∀ (j : Nat) x y, j < i → l0_4[j]? = some x → l1_4[j]? = some y → eqGoneB x y = true) ∧ Aside0 (∃ n, W = W0.drewN n))
    case atStart => exact ⟨0, Nat.zero_le _, Nat.le_refl _, rfl, ⟨fun j x y hj => absurd hj (Nat.not_lt_zero _)⟩, ⟨0, rfl⟩⟩
    case round =>
      obtain ⟨i, hi, hg, rfl, HE, ⟨⟨n, rfl⟩⟩⟩ := hrel
      have kx := bc0 HX.out
      have ky := bc0 HY.out
      by_cases hlt : i < l0_4.length
      · have hle := hlen4.out
        obtain ⟨ad, q, q0, q1⟩ := at_T61 (Kd.C_below HA1.out HW.out) (i : Int) (by omega) (by omega)
        obtain ⟨ad', q', p0, p1⟩ := at_T61 (Kd.C_below HB1.out HW.out) (i : Int) (by omega) (by omega)
        subst q q'
        simp only [Int.toNat_natCast] at q0 q1 p0 p1
        have hi2 : (i : Int) < l1_4.length := by omega
        have G1 := Aside0.mk (getD_some z61 hlt)
        have G2 := Aside0.mk (getD_some z61 (show i < l1_4.length by omega))
        have hx : rd_T61 l0_4 i = l0_4.getD i z61 := by simp [rd_T61]
        have hy : rd_T61 l1_4 i = l1_4.getD i z61 := by simp [rd_T61]
        rw [hx] at q0 q1
        rw [hy] at p0 p1
        clear hx hy hle
        generalize l0_4.getD i z61 = x at *
        generalize l1_4.getD i z61 = y at *
        have hE : eqGoneB x y = (x.f0 == y.f0 && (x.f1 == y.f1)) := rfl
        cases ha : (x.f0 == y.f0)
        · have HF := Aside0.mk (show eqGoneB x y = false by rw [hE, ha]; rfl)
          clear hE
          go_wp2
          go_quiet (fail)
          go_wp2
          go_ret
          exact ⟨by rw [HE'.out, allEq_false G1.out G2.out HF.out]; rfl, by repeat (first | exact HW.out | apply below_alloc | apply pw_below_drewN)⟩
        cases hb : (x.f1 == y.f1)
        · have HF := Aside0.mk (show eqGoneB x y = false by rw [hE, ha, hb]; rfl)
          clear hE
          go_wp2
          go_quiet (fail)
          go_wp2
          go_ret
          exact ⟨by rw [HE'.out, allEq_false G1.out G2.out HF.out]; rfl, by repeat (first | exact HW.out | apply below_alloc | apply pw_below_drewN)⟩
        · have HF := Aside0.mk (show eqGoneB x y = true by rw [hE, ha, hb]; rfl)
          clear hE
          go_wp2
          go_quiet (fail)
          go_wp2
          go_roundg (l0_4.length - (i + 1))
          case measure => omega
          case rel =>
            refine ⟨i + 1, by omega, by omega, by go_num, ⟨fun j a b hj h1 h2 => ?_⟩, ⟨⟨_, rfl⟩⟩⟩
            by_cases e : j = i
            · subst e
              rw [G1.out] at h1
              rw [G2.out] at h2
              cases h1
              cases h2
              exact HF.out
            · exact HE.out j a b (by omega) h1 h2
      · go_wp2
        go_ret
        exact ⟨by rw [HE'.out, allEq_true (fun j x y h1 h2 => HE.out j x y (by have := (List.getElem?_eq_some_iff.1 h1).1; omega) h1 h2)]; rfl, by repeat (first | exact HW.out | apply below_alloc | apply pw_below_drewN)⟩


end Go.Proofs.YtlaglkcgmhgacaaDoor.P
end
