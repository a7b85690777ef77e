/- Functions of this seat as Lean functions, and that the Go code comes to their answers: written by a program of this session's. -/
import Derived.Test.YtjmnaipoccpbmaaDoorVs10
import Derived.Test.YtjmnaipoccpbmaaDoorVs18
namespace Go.Proofs.YtjmnaipoccpbmaaDoor.P
open Go.RowKit Go.Proofs.YtjmnaipoccpbmaaDoorW.PrintWords Go.Proofs.YtjmnaipoccpbmaaDoorW.PrintLast Go.Proofs.YtjmnaipoccpbmaaDoorW.PrintMore
attribute [local go_sem] max2_int min2_int max_two min_two max_three min_three max_four min_four   -- for this text's walks alone
set_option linter.unusedVariables false
set_option linter.unusedSimpArgs false

/-! ### mailbox_possible: function 23 -/
def mailbox_possible.f (a0_0 : Int) (a0_1 : Int) (a0_2 : Int) (l0_3 : List (S78)) (l0_4 : List (S73)) (a1_0 : Int) (a1_1 : Int) (a1_2 : Int) (a1_3 : Int) (a1_4 : Int) (l1_5 : List (S99)) (l1_6 : List Int) : Option (Int × Int) :=
  if a0_1 = 1000000 ∨ a1_0 = 1 ∧ a0_0 = 1000000 then some (1, -3)
  else if a1_0 = 1 ∧ (l0_3.length : Int) = 200 then some (2, -1)
  else if a1_0 ≠ 1 ∧ placeFrom l0_3 a1_1 0 < 0 then some (6, -9)
  else some (0, 0)
set_option maxHeartbeats 2000000 in
set_option maxRecDepth 100000 in
theorem mailbox_possible.calls (a0_0 : Int) (a0_1 : Int) (a0_2 : Int) (A0_3 : Option Addr) (c0_3 : Nat) (l0_3 : List (S78)) (A0_4 : Option Addr) (c0_4 : Nat) (l0_4 : List (S73)) (a1_0 : Int) (a1_1 : Int) (a1_2 : Int) (a1_3 : Int) (a1_4 : Int) (A1_5 : Option Addr) (c1_5 : Nat) (l1_5 : List (S99)) (A1_6 : Option Addr) (c1_6 : Nat) (l1_6 : List Int) (r1 : Int) (r2 : Int) (w : World) (hr0_3 : Kd.C k78 w A0_3 l0_3.length l0_3) (hc0_3 : l0_3.length ≤ c0_3) (hr0_4 : Kd.C k73 w A0_4 l0_4.length l0_4) (hc0_4 : l0_4.length ≤ c0_4) (hr1_5 : Kd.C k99 w A1_5 l1_5.length l1_5) (hc1_5 : l1_5.length ≤ c1_5) (hr1_6 : Kd.C (Kd.int .u8) w A1_6 l1_6.length l1_6) (hc1_6 : l1_6.length ≤ c1_6) (h : mailbox_possible.f a0_0 a0_1 a0_2 l0_3 l0_4 a1_0 a1_1 a1_2 a1_3 a1_4 l1_5 l1_6 = some (r1, r2)) :
    Calls Tryd.prog 23 #[.agg #[.int .i64 a0_0, .int .i64 a0_1, .int .i64 a0_2, .slice A0_3 l0_3.length c0_3, .slice A0_4 l0_4.length c0_4], .agg #[.int .i64 a1_0, .int .i64 a1_1, .int .i64 a1_2, .int .i64 a1_3, .int .i64 a1_4, .slice A1_5 l1_5.length c1_5, .slice A1_6 l1_6.length c1_6]] w fun e w' => e = .returned (.agg #[.int .i64 r1, .int .i64 r2]) ∧ Below w.heap.size w w' := by
  have hu := Tryd.underlying35
  unfold mailbox_possible.f at h
  have n3 := hr0_3.2.1
  have HR3 := Aside0.mk hr0_3
  have HR4 := Aside0.mk hr0_4
  clear hr0_3 hr0_4 hr1_5 hr1_6
  have HP : Aside0 (mailbox_Place.f a0_0 a0_1 a0_2 l0_3 l0_4 a1_1 = some (placeFrom l0_3 a1_1 0)) := ⟨rfl⟩
  generalize placeFrom l0_3 a1_1 0 = p at *
  by_cases c1 : a0_1 = 1000000
  · rw [if_pos (.inl c1)] at h
    cases h
    replace c1 : (a0_1 == 1000000) = true := beq_iff_eq.2 c1
    go_enter Tryd.func23, Tryd.ntmps23
    go_wp2_with (first | (go_at_call 32; refine (mailbox_fault_any _ _ _).mono ?_; rintro e w' ⟨rfl, rfl⟩))
    exact bodyPost_ret (v := .agg #[.int .i64 1, .int .i64 (-3)]) (by simp [results, Tryd.results23, go_sem]) rfl ⟨rfl, by repeat (first | exact Below.refl _ _ | apply below_alloc)⟩
  have d1 : (a0_1 == 1000000) = false := beq_eq_false_iff_ne.2 c1
  by_cases c2 : a1_0 = 1
  · have d2 : (a1_0 == 1) = true := beq_iff_eq.2 c2
    have d2' : (a1_0 != 1) = false := bne_eq_false_iff_eq.2 c2
    by_cases c3 : a0_0 = 1000000
    · rw [if_pos (.inr ⟨c2, c3⟩)] at h
      cases h
      replace c3 : (a0_0 == 1000000) = true := beq_iff_eq.2 c3
      clear c1 c2
      go_enter Tryd.func23, Tryd.ntmps23
      go_wp2_with (first | (go_at_call 32; refine (mailbox_fault_any _ _ _).mono ?_; rintro e w' ⟨rfl, rfl⟩))
      exact bodyPost_ret (v := .agg #[.int .i64 1, .int .i64 (-3)]) (by simp [results, Tryd.results23, go_sem]) rfl ⟨rfl, by repeat (first | exact Below.refl _ _ | apply below_alloc)⟩
    have d3 : (a0_0 == 1000000) = false := beq_eq_false_iff_ne.2 c3
    rw [if_neg (fun h => h.elim c1 (fun h => c3 h.2))] at h
    by_cases c4 : (l0_3.length : Int) = 200
    · rw [if_pos ⟨c2, c4⟩] at h
      cases h
      replace c4 : ((l0_3.length : Int) == 200) = true := beq_iff_eq.2 c4
      clear c1 c2 c3
      go_enter Tryd.func23, Tryd.ntmps23
      go_wp2_with (first | (go_at_call 32; refine (mailbox_fault_any _ _ _).mono ?_; rintro e w' ⟨rfl, rfl⟩))
      exact bodyPost_ret (v := .agg #[.int .i64 2, .int .i64 (-1)]) (by simp [results, Tryd.results23, go_sem]) rfl ⟨rfl, by repeat (first | exact Below.refl _ _ | apply below_alloc)⟩
    · rw [if_neg (fun h => c4 h.2), if_neg (fun h => h.1 c2)] at h
      cases h
      replace c4 : ((l0_3.length : Int) == 200) = false := beq_eq_false_iff_ne.2 c4
      clear c1 c2 c3
      go_enter Tryd.func23, Tryd.ntmps23
      go_wp2_with (first | (go_at_call 32; refine (mailbox_fault_any _ _ _).mono ?_; rintro e w' ⟨rfl, rfl⟩))
      exact bodyPost_ret (v := .agg #[.int .i64 0, .int .i64 0]) (by simp [results, Tryd.results23, go_sem]) rfl ⟨rfl, by repeat (first | exact Below.refl _ _ | apply below_alloc)⟩
  · have d2 : (a1_0 == 1) = false := beq_eq_false_iff_ne.2 c2
    have d2' : (a1_0 != 1) = true := bne_iff_ne.2 c2
    rw [if_neg (fun h => h.elim c1 (fun h => c2 h.1)), if_neg (fun h => c2 h.1)] at h
    by_cases c5 : p < 0
    · rw [if_pos ⟨c2, c5⟩] at h
      cases h
      replace c5 := eq_true c5
      clear c1 c2
      go_enter Tryd.func23, Tryd.ntmps23
      go_wp2_with (first | (go_at_call 32; refine (mailbox_fault_any _ _ _).mono ?_; rintro e w' ⟨rfl, rfl⟩) | (go_at_call 38; (with_reducible refine (mailbox_Place.calls a0_0 a0_1 a0_2 _ _ l0_3 _ _ l0_4 a1_1 p _ ?s1 hc0_3 ?s2 hc0_4 HP.out).mono ?_); (case s1 => exact Kd.C_below HR3.out (below_alloc (below_alloc (below_alloc (Below.refl _ _) _) _) _)); (case s2 => exact Kd.C_below HR4.out (below_alloc (below_alloc (below_alloc (Below.refl _ _) _) _) _)); rintro e w2 ⟨rfl, hb⟩; have hr := blk_call (blk_at2 _ _ _) hb; have kx := bc0 (blk_call (blk_later (blk_at1 _ _) _) hb); have kr := bc0 hr; have kf := bf0 hr; have kr1 := bc1 hr; have kf1 := bf1 hr; have hz := blk_lt hr; clear hr))
      refine bodyPost_ret (v := .agg #[.int .i64 6, .int .i64 (-9)]) (by simp [results, Tryd.results23, go_sem, kr, kr1, hz]) rfl ⟨rfl, ?_⟩
      exact below_alloc (below_set (below_set (below_step (below_alloc (below_alloc (below_alloc (Below.refl _ _) _) _) _) hb) (by omega)) (by omega)) _
    · rw [if_neg (fun h => c5 h.2)] at h
      cases h
      replace c5 := eq_false c5
      clear c1 c2
      go_enter Tryd.func23, Tryd.ntmps23
      go_wp2_with (first | (go_at_call 32; refine (mailbox_fault_any _ _ _).mono ?_; rintro e w' ⟨rfl, rfl⟩) | (go_at_call 38; (with_reducible refine (mailbox_Place.calls a0_0 a0_1 a0_2 _ _ l0_3 _ _ l0_4 a1_1 p _ ?s1 hc0_3 ?s2 hc0_4 HP.out).mono ?_); (case s1 => exact Kd.C_below HR3.out (below_alloc (below_alloc (below_alloc (Below.refl _ _) _) _) _)); (case s2 => exact Kd.C_below HR4.out (below_alloc (below_alloc (below_alloc (Below.refl _ _) _) _) _)); rintro e w2 ⟨rfl, hb⟩; have hr := blk_call (blk_at2 _ _ _) hb; have kx := bc0 (blk_call (blk_later (blk_at1 _ _) _) hb); have kr := bc0 hr; have kf := bf0 hr; have kr1 := bc1 hr; have kf1 := bf1 hr; have hz := blk_lt hr; clear hr))
      refine bodyPost_ret (v := .agg #[.int .i64 0, .int .i64 0]) (by simp [results, Tryd.results23, go_sem, kr, kr1, hz]) rfl ⟨rfl, ?_⟩
      exact (below_set (below_set (below_step (below_alloc (below_alloc (below_alloc (Below.refl _ _) _) _) _) hb) (by omega)) (by omega))


end Go.Proofs.YtjmnaipoccpbmaaDoor.P
