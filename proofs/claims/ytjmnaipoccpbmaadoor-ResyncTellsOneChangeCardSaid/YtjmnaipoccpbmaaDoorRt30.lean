/- Several texts in one, each in its own section. The last: Functions of this seat as Lean functions, and that the Go code comes to their answers: written by a program of this session's. -/
import Derived.Test.YtjmnaipoccpbmaaDoorRt10
import Derived.Test.YtjmnaipoccpbmaaDoorRt29
import Derived.Test.YtjmnaipoccpbmaaDoorRt7
/- Functions of this seat as Lean functions, and that the Go code comes to their answers: written by a program of this session's. -/
section
namespace Go.Proofs.YtjmnaipoccpbmaaDoor.P
open Go.RowKit Go.Proofs.YtjmnaipoccpbmaaDoorW.PrintWords Go.Proofs.YtjmnaipoccpbmaaDoorW.PrintLast Go.Proofs.YtjmnaipoccpbmaaDoorW.PrintMore
attribute [local go_sem] max2_int min2_int max_two min_two max_three min_three max_four min_four   -- for this text's walks alone
set_option linter.unusedVariables false
set_option linter.unusedSimpArgs false

/-! ### posthouseref8_SameView: function 9 -/
def posthouseref8_SameView.f (k : Nat) (a0_0 : Int) (l0_1 : List (S58)) (a1_0 : Int) (l1_1 : List (S58)) : Option (Bool) := if a0_0 = a1_0 then ((posthouseref8_SameSeen.f k l0_1 l1_1).bind fun t158 => (some t158)) else (some false)
theorem posthouseref8_SameView.mono : ∀ a0 a1 a2 a3 k, LeO (posthouseref8_SameView.f k a0 a1 a2 a3) (posthouseref8_SameView.f (k + 1) a0 a1 a2 a3) := by
  intro a0 a1 a2 a3 k
  unfold posthouseref8_SameView.f
  repeat' first
      | (with_reducible exact posthouseref8_SameSeen.mono _ _ _)
      | (with_reducible exact LeO.refl _)
      | (with_reducible exact LeO.none _)
      | (with_reducible refine LeO.ite ?_ ?_)
      | (with_reducible refine LeO.bind ?_ (fun _ => ?_))
      | exact posthouseref8_SameSeen.mono _ _ _
      | exact LeO.none _
      | refine LeO.ite ?_ ?_
      | refine LeO.bind ?_ (fun _ => ?_)
set_option maxHeartbeats 8000000 in
set_option maxRecDepth 100000 in
theorem posthouseref8_SameView.calls (k : Nat) (a0_0 : Int) (A0_1 : Option Addr) (c0_1 : Nat) (l0_1 : List (S58)) (a1_0 : Int) (A1_1 : Option Addr) (c1_1 : Nat) (l1_1 : List (S58)) (r : Bool) (w : World) (hr0_1 : Kd.C k58 w A0_1 l0_1.length l0_1) (hc0_1 : l0_1.length ≤ c0_1) (hr1_1 : Kd.C k58 w A1_1 l1_1.length l1_1) (hc1_1 : l1_1.length ≤ c1_1) (h : posthouseref8_SameView.f k a0_0 l0_1 a1_0 l1_1 = some r) :
    Calls Tryd.prog 9 #[.agg #[.int .i64 a0_0, .slice A0_1 l0_1.length c0_1], .agg #[.int .i64 a1_0, .slice A1_1 l1_1.length c1_1]] w fun e w' => e = .returned (.bool r) ∧ Below w.heap.size w w' := by
  have hu33 := Tryd.underlying33
  have HR0_1 := Aside0.mk hr0_1
  have HC0_1 := Aside0.mk hc0_1
  clear hr0_1 hc0_1
  have HR1_1 := Aside0.mk hr1_1
  have HC1_1 := Aside0.mk hc1_1
  clear hr1_1 hc1_1
  have HB := Aside0.mk (Below.refl w.heap.size w)
  have H : (if a0_0 = a1_0 then ((posthouseref8_SameSeen.f k l0_1 l1_1).bind fun t158 => (some t158)) else (some false)) = some r := h
  clear h
  by_cases c3 : a0_0 = a1_0
  · rw [if_pos c3] at H
    have c3b0 : (a0_0 == a1_0) = true := beq_iff_eq.mpr c3
    have c3b1 : (a0_0 != a1_0) = false := bne_eq_false_iff_eq.mpr c3
    clear c3
    replace H := Option.bind_eq_some_iff.mp H
    obtain ⟨t158, A40, H⟩ := H
    replace H : (some t158) = some r := H
    have A4 := Aside0.mk A40
    clear A40
    obtain rfl := Option.some.inj H
    go_enter Tryd.func9, Tryd.ntmps9
    go_wp2_with (first | ((with_reducible refine gate_dst (N := 2) rfl ?_); refine box_event ?hg (N := 2) ?hd (cs := #[.int .i64 a0_0, .slice A0_1 l0_1.length c0_1]) (t := 33) ?hr ?_; (case hd => rfl); (case hg => rfl); (case hr => first | (go_simp; done) | (go_simp; rfl)); intro gb156 hg w5 hbox hb; have n0_ := Aside0.mk (below_step (by repeat (first | (with_reducible first | exact HB.out | apply below_alloc | apply pw_below_drewN | apply below_drew1) | exact HB.out)) hb); have n1_ := Aside0.mk (hbox); have n2_ := Aside0.mk ((by rw [hg]; exact (below_size (by repeat (first | (with_reducible first | exact HB.out | apply below_alloc | apply pw_below_drewN | apply below_drew1) | exact HB.out))) : w.heap.size ≤ gb156)); have n3_ := Aside0.mk ((by rw [hg]; exact (below_size (by repeat (first | (with_reducible first | exact HB.out | apply below_alloc | apply pw_below_drewN | apply below_drew1) | exact HB.out))) : w.heap.size ≤ gb156)); clear HB; have HB := n0_; have BK156 := n1_; have GW156 := n2_; have GE156 := n3_; clear n0_ n1_ n2_ n3_; clear hb hbox hg) | ((with_reducible refine gate_dst (N := 3) rfl ?_); refine box_event ?hg (N := 3) ?hd (cs := #[.int .i64 a1_0, .slice A1_1 l1_1.length c1_1]) (t := 33) ?hr ?_; (case hd => rfl); (case hg => rfl); (case hr => first | (go_simp; done) | (go_simp; rfl)); intro gb157 hg w6 hbox hb; have n0_ := Aside0.mk (blk_below (g := gb156) (o := .cells #[.int .i64 a0_0, .slice A0_1 l0_1.length c0_1] 33 (0, 0)) (by (with_reducible repeat (first | refine blk_drewN ?_ _ | refine blk_drew ?_ | refine blk_alloc ?_ _)); exact BK156.out) hb); have n1_ := Aside0.mk (below_step (by repeat (first | (with_reducible first | exact HB.out | apply below_alloc | apply pw_below_drewN | apply below_drew1 | refine below_set ?_ GE156.out) | exact HB.out)) hb); have n2_ := Aside0.mk (hbox); have n3_ := Aside0.mk ((by rw [hg]; exact (below_size (by repeat (first | (with_reducible first | exact HB.out | apply below_alloc | apply pw_below_drewN | apply below_drew1 | refine below_set ?_ GE156.out) | exact HB.out))) : w.heap.size ≤ gb157)); have n4_ := Aside0.mk ((by rw [hg]; exact (below_size (by repeat (first | (with_reducible first | exact HB.out | apply below_alloc | apply pw_below_drewN | apply below_drew1 | refine below_set ?_ GE156.out) | exact HB.out))) : w.heap.size ≤ gb157)); have n5_ := Aside0.mk ((by rw [hg]; exact Nat.ne_of_lt (blk_lt (g := gb156) (o := .cells #[.int .i64 a0_0, .slice A0_1 l0_1.length c0_1] 33 (0, 0)) (by (with_reducible repeat (first | refine blk_drewN ?_ _ | refine blk_drew ?_ | refine blk_alloc ?_ _)); exact BK156.out)) : gb156 ≠ gb157)); have n6_ := Aside0.mk ((by rw [hg]; exact Nat.ne_of_gt (blk_lt (g := gb156) (o := .cells #[.int .i64 a0_0, .slice A0_1 l0_1.length c0_1] 33 (0, 0)) (by (with_reducible repeat (first | refine blk_drewN ?_ _ | refine blk_drew ?_ | refine blk_alloc ?_ _)); exact BK156.out)) : gb157 ≠ gb156)); clear BK156; clear HB; have BK156 := n0_; have HB := n1_; have BK157 := n2_; have GW157 := n3_; have GE157 := n4_; have NB156_157 := n5_; have NB157_156 := n6_; clear n0_ n1_ n2_ n3_ n4_ n5_ n6_; clear hb hbox hg; have hnb7 := NB156_157.out; have hnc7 := NB157_156.out; have hcz8_0 : w6.cell? ⟨gb156, 0, none⟩ = some (.int .i64 a0_0) := (blk_cell BK156.out 0).trans rfl; have hcz8_1 : w6.cell? ⟨gb156, 1, none⟩ = some (.slice A0_1 l0_1.length c0_1) := (blk_cell BK156.out 1).trans rfl; have hfz8_0 := blk_frozen BK156.out 0; have hfz8_1 := blk_frozen BK156.out 1; have hcz9_0 : w6.cell? ⟨gb157, 0, none⟩ = some (.int .i64 a1_0) := (blk_cell BK157.out 0).trans rfl; have hcz9_1 : w6.cell? ⟨gb157, 1, none⟩ = some (.slice A1_1 l1_1.length c1_1) := (blk_cell BK157.out 1).trans rfl; have hfz9_0 := blk_frozen BK157.out 0; have hfz9_1 := blk_frozen BK157.out 1) | (go_at_call 17; (with_reducible refine (posthouseref8_SameSeen.calls k _ _ l0_1 _ _ l1_1 t158 _ ?side1 ?side2 ?side3 ?side4 A4.out).mono ?_); (case side1 => repeat (first | exact (Kd.C_below HR0_1.out HB.out) | (with_reducible refine Kd.C_alloc ?_ _) | (with_reducible refine Kd.C_drewN ?_ _) | (with_reducible refine Kd.C_drew ?_))); (case side2 => exact HC0_1.out); (case side3 => repeat (first | exact (Kd.C_below HR1_1.out HB.out) | (with_reducible refine Kd.C_alloc ?_ _) | (with_reducible refine Kd.C_drewN ?_ _) | (with_reducible refine Kd.C_drew ?_))); (case side4 => exact HC1_1.out); rintro e w' ⟨rfl, ⟨nd, rfl⟩⟩))
    go_ret
    exact ⟨by first | rfl | (simp [errW_none, errW_some] <;> rfl) | (simp [*, errW_none, errW_some] <;> rfl), by repeat (first | (with_reducible first | exact HB.out | apply below_alloc | apply pw_below_drewN | apply below_drew1 | refine below_set ?_ GE156.out | refine below_set ?_ GE157.out) | exact HB.out)⟩
  · rw [if_neg c3] at H
    have c3b0 : (a0_0 == a1_0) = false := beq_eq_false_iff_ne.mpr c3
    have c3b1 : (a0_0 != a1_0) = true := bne_iff_ne.mpr c3
    obtain rfl := Option.some.inj H
    go_enter Tryd.func9, Tryd.ntmps9
    go_wp2_with (first | ((with_reducible refine gate_dst (N := 2) rfl ?_); refine box_event ?hg (N := 2) ?hd (cs := #[.int .i64 a0_0, .slice A0_1 l0_1.length c0_1]) (t := 33) ?hr ?_; (case hd => rfl); (case hg => rfl); (case hr => first | (go_simp; done) | (go_simp; rfl)); intro gb156 hg w10 hbox hb; have n0_ := Aside0.mk (below_step (by repeat (first | (with_reducible first | exact HB.out | apply below_alloc | apply pw_below_drewN | apply below_drew1) | exact HB.out)) hb); have n1_ := Aside0.mk (hbox); have n2_ := Aside0.mk ((by rw [hg]; exact (below_size (by repeat (first | (with_reducible first | exact HB.out | apply below_alloc | apply pw_below_drewN | apply below_drew1) | exact HB.out))) : w.heap.size ≤ gb156)); have n3_ := Aside0.mk ((by rw [hg]; exact (below_size (by repeat (first | (with_reducible first | exact HB.out | apply below_alloc | apply pw_below_drewN | apply below_drew1) | exact HB.out))) : w.heap.size ≤ gb156)); clear HB; have HB := n0_; have BK156 := n1_; have GW156 := n2_; have GE156 := n3_; clear n0_ n1_ n2_ n3_; clear hb hbox hg) | ((with_reducible refine gate_dst (N := 3) rfl ?_); refine box_event ?hg (N := 3) ?hd (cs := #[.int .i64 a1_0, .slice A1_1 l1_1.length c1_1]) (t := 33) ?hr ?_; (case hd => rfl); (case hg => rfl); (case hr => first | (go_simp; done) | (go_simp; rfl)); intro gb157 hg w11 hbox hb; have n0_ := Aside0.mk (blk_below (g := gb156) (o := .cells #[.int .i64 a0_0, .slice A0_1 l0_1.length c0_1] 33 (0, 0)) (by (with_reducible repeat (first | refine blk_drewN ?_ _ | refine blk_drew ?_ | refine blk_alloc ?_ _)); exact BK156.out) hb); have n1_ := Aside0.mk (below_step (by repeat (first | (with_reducible first | exact HB.out | apply below_alloc | apply pw_below_drewN | apply below_drew1 | refine below_set ?_ GE156.out) | exact HB.out)) hb); have n2_ := Aside0.mk (hbox); have n3_ := Aside0.mk ((by rw [hg]; exact (below_size (by repeat (first | (with_reducible first | exact HB.out | apply below_alloc | apply pw_below_drewN | apply below_drew1 | refine below_set ?_ GE156.out) | exact HB.out))) : w.heap.size ≤ gb157)); have n4_ := Aside0.mk ((by rw [hg]; exact (below_size (by repeat (first | (with_reducible first | exact HB.out | apply below_alloc | apply pw_below_drewN | apply below_drew1 | refine below_set ?_ GE156.out) | exact HB.out))) : w.heap.size ≤ gb157)); have n5_ := Aside0.mk ((by rw [hg]; exact Nat.ne_of_lt (blk_lt (g := gb156) (o := .cells #[.int .i64 a0_0, .slice A0_1 l0_1.length c0_1] 33 (0, 0)) (by (with_reducible repeat (first | refine blk_drewN ?_ _ | refine blk_drew ?_ | refine blk_alloc ?_ _)); exact BK156.out)) : gb156 ≠ gb157)); have n6_ := Aside0.mk ((by rw [hg]; exact Nat.ne_of_gt (blk_lt (g := gb156) (o := .cells #[.int .i64 a0_0, .slice A0_1 l0_1.length c0_1] 33 (0, 0)) (by (with_reducible repeat (first | refine blk_drewN ?_ _ | refine blk_drew ?_ | refine blk_alloc ?_ _)); exact BK156.out)) : gb157 ≠ gb156)); clear BK156; clear HB; have BK156 := n0_; have HB := n1_; have BK157 := n2_; have GW157 := n3_; have GE157 := n4_; have NB156_157 := n5_; have NB157_156 := n6_; clear n0_ n1_ n2_ n3_ n4_ n5_ n6_; clear hb hbox hg; have hnb12 := NB156_157.out; have hnc12 := NB157_156.out; have hcz13_0 : w11.cell? ⟨gb156, 0, none⟩ = some (.int .i64 a0_0) := (blk_cell BK156.out 0).trans rfl; have hcz13_1 : w11.cell? ⟨gb156, 1, none⟩ = some (.slice A0_1 l0_1.length c0_1) := (blk_cell BK156.out 1).trans rfl; have hfz13_0 := blk_frozen BK156.out 0; have hfz13_1 := blk_frozen BK156.out 1; have hcz14_0 : w11.cell? ⟨gb157, 0, none⟩ = some (.int .i64 a1_0) := (blk_cell BK157.out 0).trans rfl; have hcz14_1 : w11.cell? ⟨gb157, 1, none⟩ = some (.slice A1_1 l1_1.length c1_1) := (blk_cell BK157.out 1).trans rfl; have hfz14_0 := blk_frozen BK157.out 0; have hfz14_1 := blk_frozen BK157.out 1))
    go_ret
    exact ⟨by first | rfl | (simp [errW_none, errW_some] <;> rfl) | (simp [*, errW_none, errW_some] <;> rfl), by repeat (first | (with_reducible first | exact HB.out | apply below_alloc | apply pw_below_drewN | apply below_drew1 | refine below_set ?_ GE156.out | refine below_set ?_ GE157.out) | exact HB.out)⟩

end Go.Proofs.YtjmnaipoccpbmaaDoor.P
end
/- Of a region that draws its order: what is worldless may be taken first, whoever waits for it. -/
section
namespace Go.Proofs.YtjmnaipoccpbmaaDoor.P
set_option linter.unusedVariables false
section
variable {P : Program} {ops : Array Oper} {Q : Exit → Act → World → Prop} {md : Region.Mode} {n : Nat} {T U : World → Prop}
end
end Go.Proofs.YtjmnaipoccpbmaaDoor.P
end
/- Functions of this seat as Lean functions, and that the Go code comes to their answers: written by a program of this session's. -/
section
namespace Go.Proofs.YtjmnaipoccpbmaaDoor.P
open Go.RowKit Go.Proofs.YtjmnaipoccpbmaaDoorW.PrintWords Go.Proofs.YtjmnaipoccpbmaaDoorW.PrintLast Go.Proofs.YtjmnaipoccpbmaaDoorW.PrintMore
attribute [local go_sem] max2_int min2_int max_two min_two max_three min_three max_four min_four   -- for this text's walks alone
set_option linter.unusedVariables false
set_option linter.unusedSimpArgs false

/-! ### views_Validate: function 18 -/
/-- The fault of one that is seen. -/
def seenFault (l : List (S58)) (i : Nat) : Int :=
  if (rd_T58 l i).f0 < 1 ∨ 1000000 < (rd_T58 l i).f0 ∨ (rd_T58 l i).f1 < 0 ∨ 63 < (rd_T58 l i).f1 then 3 else if 0 < i ∧ (rd_T58 l i).f0 ≤ (rd_T58 l ((i - 1 : Nat) : Int)).f0 then 19 else 0
def firstSeen (l : List (S58)) : Nat → Nat → Int × Int
  | 0, _ => (0, 0)
  | n + 1, i => if seenFault l i = 0 then firstSeen l n (i + 1) else (seenFault l i, (i : Int))
def views_Validate.f (a0 : Int) (l : List (S58)) : Option (Int × Int) :=
  if 600 < l.length then some (2, -1) else if a0 < 0 ∨ 1000000 < a0 then some (3, -1) else some (firstSeen l l.length 0)
set_option maxHeartbeats 4000000 in
set_option maxRecDepth 100000 in
theorem VValidate_a (a0_0 : Int) (A0_1 : Option Addr) (c0_1 : Nat) (l0_1 : List (S58)) (w : World) (h : 600 < l0_1.length) :
    Calls Tryd.prog 18 #[.agg #[.int .i64 a0_0, .slice A0_1 l0_1.length c0_1]] w fun e w' => e = .returned (.agg #[.int .i64 2, .int .i64 (-1)]) ∧ Below w.heap.size w w' := by
  have d0 : decide (600 < (l0_1.length : Int)) = true := decide_eq_true (by omega)
  have hu := Tryd.underlying33
  have hu2 := Tryd.underlying58
  have hus := Tryd.underlying31
  have HB := Aside0.mk (below_alloc (below_alloc (Below.refl w.heap.size w) (.cells #[.int .i64 a0_0, .slice A0_1 l0_1.length c0_1] 33)) (.cells #[.int .i64 0, .int .i64 0] 35))
  have HA := Aside0.mk (blk_later (blk_at (w := w) (.cells #[.int .i64 a0_0, .slice A0_1 l0_1.length c0_1] 33)) (.cells #[.int .i64 0, .int .i64 0] 35))
  have HR := Aside0.mk (blk_at1 (w := w) (.cells #[.int .i64 a0_0, .slice A0_1 l0_1.length c0_1] 33) (.cells #[.int .i64 0, .int .i64 0] 35))
  have kHA := bc0 HA.out
  have kHR := bc0 HR.out
  have fHR := bf0 HR.out
  go_enter Tryd.func18, Tryd.ntmps18
  go_wp2
  refine bodyPost_ret (results_cell_row rfl _ _ (w.heap.size + 1) 35 #[.int .i64 2, .int .i64 (-1)] (0, 0) _ rfl (blk_at1 _ _) Tryd.underlying35 rfl (by kernel_rfl)) rfl ⟨rfl, below_alloc (below_alloc (Below.refl _ _) _) _⟩
set_option maxHeartbeats 4000000 in
set_option maxRecDepth 100000 in
theorem VValidate_b (a0_0 : Int) (A0_1 : Option Addr) (c0_1 : Nat) (l0_1 : List (S58)) (w : World) (h : ¬ 600 < l0_1.length) (h1 : a0_0 < 0 ∨ 1000000 < a0_0) :
    Calls Tryd.prog 18 #[.agg #[.int .i64 a0_0, .slice A0_1 l0_1.length c0_1]] w fun e w' => e = .returned (.agg #[.int .i64 3, .int .i64 (-1)]) ∧ Below w.heap.size w w' := by
  have d0 : decide (600 < (l0_1.length : Int)) = false := decide_eq_false (by omega)
  have hcc : decide (a0_0 < 0) = true ∨ decide (a0_0 < 0) = false ∧ decide (1000000 < a0_0) = true := by
    by_cases h2 : a0_0 < 0
    · exact .inl (decide_eq_true h2)
    · exact .inr ⟨decide_eq_false h2, decide_eq_true (h1.elim (fun h => absurd h h2) id)⟩
  have hu := Tryd.underlying33
  have hu2 := Tryd.underlying58
  have hus := Tryd.underlying31
  have HB := Aside0.mk (below_alloc (below_alloc (Below.refl w.heap.size w) (.cells #[.int .i64 a0_0, .slice A0_1 l0_1.length c0_1] 33)) (.cells #[.int .i64 0, .int .i64 0] 35))
  have HA := Aside0.mk (blk_later (blk_at (w := w) (.cells #[.int .i64 a0_0, .slice A0_1 l0_1.length c0_1] 33)) (.cells #[.int .i64 0, .int .i64 0] 35))
  have HR := Aside0.mk (blk_at1 (w := w) (.cells #[.int .i64 a0_0, .slice A0_1 l0_1.length c0_1] 33) (.cells #[.int .i64 0, .int .i64 0] 35))
  have kHA := bc0 HA.out
  have kHR := bc0 HR.out
  have fHR := bf0 HR.out
  clear h1
  rcases hcc with d1 | ⟨d1, d2⟩
  all_goals
    go_enter Tryd.func18, Tryd.ntmps18
    go_wp2
    refine bodyPost_ret (results_cell_row rfl _ _ (w.heap.size + 1) 35 #[.int .i64 3, .int .i64 (-1)] (0, 0) _ rfl (blk_at1 _ _) Tryd.underlying35 rfl (by kernel_rfl)) rfl ⟨rfl, below_alloc (below_alloc (Below.refl _ _) _) _⟩
set_option maxHeartbeats 4000000 in
set_option maxRecDepth 100000 in
theorem VValidate_c (a0_0 : Int) (A0_1 : Option Addr) (c0_1 : Nat) (l0_1 : List (S58)) (r1 r2 : Int) (w : World) (hr : Kd.C k58 w A0_1 l0_1.length l0_1) (h : ¬ 600 < l0_1.length) (h1 : ¬ (a0_0 < 0 ∨ 1000000 < a0_0)) (h2 : firstSeen l0_1 l0_1.length 0 = (r1, r2)) :
    Calls Tryd.prog 18 #[.agg #[.int .i64 a0_0, .slice A0_1 l0_1.length c0_1]] w fun e w' => e = .returned (.agg #[.int .i64 r1, .int .i64 r2]) ∧ Below w.heap.size w w' := by
  have d0 : decide (600 < (l0_1.length : Int)) = false := decide_eq_false (by omega)
  have d1 : decide (a0_0 < 0) = false := decide_eq_false (fun h => h1 (.inl h))
  have d2 : decide (1000000 < a0_0) = false := decide_eq_false (fun h => h1 (.inr h))
  have H := Aside0.mk hr
  have H2 := Aside0.mk h2
  clear hr h1 h2
  have hu := Tryd.underlying33
  have hu2 := Tryd.underlying58
  have hus := Tryd.underlying31
  have HB := Aside0.mk (below_alloc (below_alloc (Below.refl w.heap.size w) (.cells #[.int .i64 a0_0, .slice A0_1 l0_1.length c0_1] 33)) (.cells #[.int .i64 0, .int .i64 0] 35))
  have HA := Aside0.mk (blk_later (blk_at (w := w) (.cells #[.int .i64 a0_0, .slice A0_1 l0_1.length c0_1] 33)) (.cells #[.int .i64 0, .int .i64 0] 35))
  have HR := Aside0.mk (blk_at1 (w := w) (.cells #[.int .i64 a0_0, .slice A0_1 l0_1.length c0_1] 33) (.cells #[.int .i64 0, .int .i64 0] 35))
  have kHA := bc0 HA.out
  have kHR := bc0 HR.out
  have fHR := bf0 HR.out
  go_enter Tryd.func18, Tryd.ntmps18
  go_wp2
  clear kHA kHR fHR
  go_loopg [24] l0_1.length (fun gg v24 W => ∃ i : Nat, i ≤ l0_1.length ∧ l0_1.length - i ≤ gg ∧ v24 = .int .i64 i ∧ Aside0 (firstSeen l0_1 (l0_1.length - i) i = (r1, r2)) ∧ Aside0 (W.heap[w.heap.size]? = some (.cells #[.int .i64 a0_0, .slice A0_1 l0_1.length c0_1] 33 (0, 0))) ∧ Aside0 (W.heap[w.heap.size + 1]? = some (.cells #[.int .i64 0, .int .i64 0] 35 (0, 0))) ∧ Aside0 (Below w.heap.size w W))
  case atStart => exact ⟨0, Nat.zero_le _, Nat.le_refl _, rfl, H2, HA, HR, HB⟩
  case round =>
  clear HA HR HB H2
  obtain ⟨i, hi, hg, rfl, HF, HA, HR, HB⟩ := hrel
  have mHA := bc1 HA.out
  have kHR := bc0 HR.out
  have fHR := bf0 HR.out
  have mHR := bc1 HR.out
  have pHR := bf1 HR.out
  have yHR := blk_lt HR.out
  by_cases hlt : i < l0_1.length
  · obtain ⟨m, hm⟩ : ∃ m, l0_1.length - i = m + 1 := ⟨l0_1.length - i - 1, by omega⟩
    have hF := HF.out
    clear HF
    rw [hm] at hF
    simp only [firstSeen] at hF
    have i0 : decide ((i : Int) < (l0_1.length : Int)) = true := decide_eq_true (by omega)
    have i1 : decide (0 ≤ (i : Int)) = true := decide_eq_true (by omega)
    obtain ⟨ad, hA, q0, q1⟩ := at_T58 (Kd.C_below H.out HB.out) (i : Int) (by omega) (by omega)
    have hA' := Aside0.mk hA
    cases hA
    rw [Int.toNat_natCast] at q0 q1
    by_cases hb : (rd_T58 l0_1 i).f0 < 1 ∨ 1000000 < (rd_T58 l0_1 i).f0 ∨ (rd_T58 l0_1 i).f1 < 0 ∨ 63 < (rd_T58 l0_1 i).f1
    · have hs : seenFault l0_1 i = 3 := by unfold seenFault; rw [if_pos hb]
      rw [hs, if_neg (by decide)] at hF
      cases hF
      generalize rd_T58 l0_1 (i : Int) = x at *
      clear hs
      have hcc : decide (x.f0 < 1) = true ∨ decide (x.f0 < 1) = false ∧ decide (1000000 < x.f0) = true ∨ decide (x.f0 < 1) = false ∧ decide (1000000 < x.f0) = false ∧ decide (x.f1 < 0) = true ∨ decide (x.f0 < 1) = false ∧ decide (1000000 < x.f0) = false ∧ decide (x.f1 < 0) = false ∧ decide (63 < x.f1) = true := by
        simp only [decide_eq_true_eq, decide_eq_false_iff_not]; omega
      clear hb
      rcases hcc with e1 | ⟨e1, e2⟩ | ⟨e1, e2, e3⟩ | ⟨e1, e2, e3, e4⟩
      all_goals
        go_wp2
        refine bodyPost_ret (results_cell_row rfl _ _ (w.heap.size + 1) 35 #[.int .i64 3, .int .i64 (i : Int)] (0, 0) _ rfl (by (with_reducible repeat (first | refine blk_drewN ?_ _ | refine blk_drew ?_ | refine blk_alloc ?_ _)); refine blk_put (cs := #[.int .i64 3, .int .i64 0]) ?_ 1 _ rfl; (with_reducible repeat (first | refine blk_drewN ?_ _ | refine blk_drew ?_ | refine blk_alloc ?_ _)); refine blk_put (cs := #[.int .i64 0, .int .i64 0]) ?_ 0 _ rfl; (with_reducible repeat (first | refine blk_drewN ?_ _ | refine blk_drew ?_ | refine blk_alloc ?_ _)); exact HR.out) Tryd.underlying35 rfl (by kernel_rfl)) rfl ⟨rfl, by repeat (first | exact HB.out | (with_reducible apply below_alloc) | (with_reducible apply pw_below_drewN) | (with_reducible refine below_set ?_ (show w.heap.size ≤ w.heap.size + 1 by omega)))⟩
    · have e1 : decide ((rd_T58 l0_1 i).f0 < 1) = false := decide_eq_false (fun h => hb (.inl h))
      have e2 : decide (1000000 < (rd_T58 l0_1 i).f0) = false := decide_eq_false (fun h => hb (.inr (.inl h)))
      have e3 : decide ((rd_T58 l0_1 i).f1 < 0) = false := decide_eq_false (fun h => hb (.inr (.inr (.inl h))))
      have e4 : decide (63 < (rd_T58 l0_1 i).f1) = false := decide_eq_false (fun h => hb (.inr (.inr (.inr h))))
      have HFA := Aside0.mk hF
      clear hF
      by_cases h0 : 0 < i
      · obtain ⟨j, hj⟩ : ∃ j : Nat, i = j + 1 := ⟨i - 1, by omega⟩
        have hij : i - 1 = j := by omega
        have g0 : decide (0 < (i : Int)) = true := decide_eq_true (by omega)
        obtain ⟨ji, hji⟩ : ∃ ji : Int, (i : Int) - 1 = ji := ⟨_, rfl⟩
        have hjj : (j : Int) = ji := by omega
        have i4 : 0 ≤ ji := by omega
        have i5 : ji < (l0_1.length : Int) := by omega
        obtain ⟨ad', hA2, p0, p1⟩ := at_T58 (Kd.C_below H.out HB.out) ji i4 i5
        cases hA2
        have p0' := cell1 p0
        replace i4 := eq_true i4
        replace i5 := eq_true i5
        have W1 := Aside0.mk (show IntKind.i64.wrap ((i : Int) - 1) = ji from (i64_w _).trans (by unfold wrap64; omega))
        by_cases ho : (rd_T58 l0_1 i).f0 ≤ (rd_T58 l0_1 ji).f0
        · have hs : seenFault l0_1 i = 19 := by unfold seenFault; rw [if_neg hb, hij, hjj, if_pos ⟨h0, ho⟩]
          have hF := HFA.out
          rw [hs, if_neg (by decide)] at hF
          cases hF
          have g3 : decide ((rd_T58 l0_1 i).f0 ≤ (rd_T58 l0_1 ji).f0) = true := decide_eq_true ho
          clear hs hb ho HFA hj hij hjj hji
          generalize rd_T58 l0_1 (i : Int) = x at *
          generalize rd_T58 l0_1 ji = y at *
          have w1 := W1.out
          go_wp2
          go_quiet (fail)
          go_wp2
          refine bodyPost_ret (results_cell_row rfl _ _ (w.heap.size + 1) 35 #[.int .i64 19, .int .i64 (i : Int)] (0, 0) _ rfl (by (with_reducible repeat (first | refine blk_drewN ?_ _ | refine blk_drew ?_ | refine blk_alloc ?_ _)); refine blk_put (cs := #[.int .i64 19, .int .i64 0]) ?_ 1 _ rfl; (with_reducible repeat (first | refine blk_drewN ?_ _ | refine blk_drew ?_ | refine blk_alloc ?_ _)); refine blk_put (cs := #[.int .i64 0, .int .i64 0]) ?_ 0 _ rfl; (with_reducible repeat (first | refine blk_drewN ?_ _ | refine blk_drew ?_ | refine blk_alloc ?_ _)); exact HR.out) Tryd.underlying35 rfl (by kernel_rfl)) rfl ⟨rfl, by repeat (first | exact HB.out | (with_reducible apply below_alloc) | (with_reducible apply pw_below_drewN) | (with_reducible refine below_set ?_ (show w.heap.size ≤ w.heap.size + 1 by omega)))⟩
        · have hs : seenFault l0_1 i = 0 := by unfold seenFault; rw [if_neg hb, hij, hjj, if_neg (fun h => ho h.2)]
          have hF := HFA.out
          rw [hs, if_pos rfl] at hF
          have HF := Aside0.mk hF
          have g3 : decide ((rd_T58 l0_1 i).f0 ≤ (rd_T58 l0_1 ji).f0) = false := decide_eq_false ho
          clear hs hb ho HFA hF hj hij hjj hji
          generalize rd_T58 l0_1 (i : Int) = x at *
          generalize rd_T58 l0_1 ji = y at *
          have w1 := W1.out
          go_wp2
          go_quiet (fail)
          go_wp2_with fail
          go_roundg (l0_1.length - (i + 1))
          case measure => clear w1; omega
          case rel => exact ⟨i + 1, by omega, by omega, by go_num, by rw [show l0_1.length - (i + 1) = m by clear w1; omega]; exact HF, ⟨blk_drewN (blk_later HA.out _) nq⟩, ⟨blk_drewN (blk_later HR.out _) nq⟩, ⟨pw_below_drewN (below_alloc HB.out _) nq⟩⟩
      · have hs : seenFault l0_1 i = 0 := by unfold seenFault; rw [if_neg hb, if_neg (fun h => h0 h.1)]
        have hF := HFA.out
        rw [hs, if_pos rfl] at hF
        have HF := Aside0.mk hF
        have g0 : decide (0 < (i : Int)) = false := decide_eq_false (by omega)
        clear hs hb HFA hF
        generalize rd_T58 l0_1 (i : Int) = x at *
        go_wp2
        go_quiet (fail)
        go_wp2_with fail
        go_roundg (l0_1.length - (i + 1))
        case measure => omega
        case rel => exact ⟨i + 1, by omega, by omega, by go_num, by rw [show l0_1.length - (i + 1) = m by omega]; exact HF, ⟨blk_drewN (blk_later HA.out _) nq⟩, ⟨blk_drewN (blk_later HR.out _) nq⟩, ⟨pw_below_drewN (below_alloc HB.out _) nq⟩⟩
  · obtain rfl : i = l0_1.length := by omega
    have hF := HF.out
    clear HF
    rw [Nat.sub_self] at hF
    cases hF
    have i0 : decide ((l0_1.length : Int) < (l0_1.length : Int)) = false := decide_eq_false (by omega)
    go_wp2
    refine bodyPost_ret (results_cell_row rfl _ _ (w.heap.size + 1) 35 #[.int .i64 0, .int .i64 0] (0, 0) _ rfl (by (with_reducible repeat (first | refine blk_drewN ?_ _ | refine blk_drew ?_ | refine blk_alloc ?_ _)); refine blk_put (cs := #[.int .i64 0, .int .i64 0]) ?_ 1 _ rfl; (with_reducible repeat (first | refine blk_drewN ?_ _ | refine blk_drew ?_ | refine blk_alloc ?_ _)); refine blk_put (cs := #[.int .i64 0, .int .i64 0]) ?_ 0 _ rfl; (with_reducible repeat (first | refine blk_drewN ?_ _ | refine blk_drew ?_ | refine blk_alloc ?_ _)); exact HR.out) Tryd.underlying35 rfl (by kernel_rfl)) rfl ⟨rfl, by repeat (first | exact HB.out | (with_reducible apply below_alloc) | (with_reducible apply pw_below_drewN) | (with_reducible refine below_set ?_ (show w.heap.size ≤ w.heap.size + 1 by omega)))⟩
theorem views_Validate.calls (a0_0 : Int) (A0_1 : Option Addr) (c0_1 : Nat) (l0_1 : List (S58)) (r1 : Int) (r2 : Int) (w : World) (hr0_1 : Kd.C k58 w A0_1 l0_1.length l0_1) (hc0_1 : l0_1.length ≤ c0_1) (h : views_Validate.f a0_0 l0_1 = some (r1, r2)) :
    Calls Tryd.prog 18 #[.agg #[.int .i64 a0_0, .slice A0_1 l0_1.length c0_1]] w fun e w' => e = .returned (.agg #[.int .i64 r1, .int .i64 r2]) ∧ Below w.heap.size w w' := by
  unfold views_Validate.f at h
  split at h
  case isTrue h1 =>
    cases h
    exact VValidate_a a0_0 A0_1 c0_1 l0_1 w h1
  case isFalse h1 =>
    split at h
    case isTrue h2 =>
      cases h
      exact VValidate_b a0_0 A0_1 c0_1 l0_1 w h1 h2
    case isFalse h2 => exact VValidate_c a0_0 A0_1 c0_1 l0_1 r1 r2 w hr0_1 h1 h2 (Option.some.inj h)


end Go.Proofs.YtjmnaipoccpbmaaDoor.P
end
/- Functions of this seat as Lean functions, and that the Go code comes to their answers: written by a program of this session's. -/
section
namespace Go.Proofs.YtjmnaipoccpbmaaDoor.P
open Go.RowKit Go.Proofs.YtjmnaipoccpbmaaDoorW.PrintWords Go.Proofs.YtjmnaipoccpbmaaDoorW.PrintLast Go.Proofs.YtjmnaipoccpbmaaDoorW.PrintMore
attribute [local go_sem] max2_int min2_int max_two min_two max_three min_three max_four min_four   -- for this text's walks alone
set_option linter.unusedVariables false
set_option linter.unusedSimpArgs false

/-! ### cmp_isNaN_int: function 67 -/
def cmp_isNaN_int.f (a0 : Int) : Option (Bool) := some (a0 != a0)
set_option maxHeartbeats 8000000 in
set_option maxRecDepth 100000 in
theorem cmp_isNaN_int.calls (a0 : Int) (r : Bool) (w : World) (h : cmp_isNaN_int.f a0 = some r) :
    Calls Tryd.prog 67 #[.int .i64 a0] w fun e w' => e = .returned (.bool r) ∧ Drawn0 w w' := by
  have H : (some (a0 != a0)) = some r := h
  clear h
  obtain rfl := Option.some.inj H
  go_enter Tryd.func67, Tryd.ntmps67
  go_wp2
  go_ret
  exact ⟨by first | rfl | (simp; done) | (simp [*]; done), by repeat (first | exact Drawn0.refl _ | apply Drawn0.step)⟩

end Go.Proofs.YtjmnaipoccpbmaaDoor.P
end
/- Functions of this seat as Lean functions, and that the Go code comes to their answers: written by a program of this session's. -/
section
namespace Go.Proofs.YtjmnaipoccpbmaaDoor.P
open Go.RowKit Go.Proofs.YtjmnaipoccpbmaaDoorW.PrintWords Go.Proofs.YtjmnaipoccpbmaaDoorW.PrintLast Go.Proofs.YtjmnaipoccpbmaaDoorW.PrintMore
attribute [local go_sem] max2_int min2_int max_two min_two max_three min_three max_four min_four   -- for this text's walks alone
set_option linter.unusedVariables false
set_option linter.unusedSimpArgs false

/-! ### cmp_Compare_int: function 60 -/
def cmp_Compare_int.f (a0 : Int) (a1 : Int) : Option (Int) := (cmp_isNaN_int.f a0).bind fun t182 => ((cmp_isNaN_int.f a1).bind fun t183 => (if t182 = true then (if t183 = true then (some 0) else (some (-1))) else (if t183 = true then (some 1) else (if a0 < a1 then (some (-1)) else (if a0 > a1 then (some 1) else (some 0))))))
set_option maxHeartbeats 8000000 in
set_option maxRecDepth 100000 in
theorem cmp_Compare_int.calls (a0 : Int) (a1 : Int) (r : Int) (w : World) (h : cmp_Compare_int.f a0 a1 = some r) :
    Calls Tryd.prog 60 #[.int .i64 a0, .int .i64 a1] w fun e w' => e = .returned (.int .i64 r) ∧ Drawn0 w w' := by
  have H : ((cmp_isNaN_int.f a0).bind fun t182 => ((cmp_isNaN_int.f a1).bind fun t183 => (if t182 = true then (if t183 = true then (some 0) else (some (-1))) else (if t183 = true then (some 1) else (if a0 < a1 then (some (-1)) else (if a0 > a1 then (some 1) else (some 0))))))) = some r := h
  clear h
  replace H := Option.bind_eq_some_iff.mp H
  obtain ⟨t182, A30, H⟩ := H
  replace H : ((cmp_isNaN_int.f a1).bind fun t183 => (if t182 = true then (if t183 = true then (some 0) else (some (-1))) else (if t183 = true then (some 1) else (if a0 < a1 then (some (-1)) else (if a0 > a1 then (some 1) else (some 0)))))) = some r := H
  have A3 := Aside0.mk A30
  clear A30
  replace H := Option.bind_eq_some_iff.mp H
  obtain ⟨t183, A40, H⟩ := H
  replace H : (if t182 = true then (if t183 = true then (some 0) else (some (-1))) else (if t183 = true then (some 1) else (if a0 < a1 then (some (-1)) else (if a0 > a1 then (some 1) else (some 0))))) = some r := H
  have A4 := Aside0.mk A40
  clear A40
  by_cases c5 : t182 = true
  · subst c5
    have H1 : (if t183 = true then (some 0) else (some (-1))) = some r := by rw [if_pos rfl] at H; exact H
    clear H
    have H := H1
    clear H1
    by_cases c6 : t183 = true
    · subst c6
      have H1 : (some 0) = some r := by rw [if_pos rfl] at H; exact H
      clear H
      have H := H1
      clear H1
      obtain rfl := Option.some.inj H
      go_enter Tryd.func60, Tryd.ntmps60
      go_wp2_with (first | ((with_reducible refine gate_callee (f := 67) rfl ?_); refine goesL_ (some 8) rfl rfl Tryd.func67 (by kernel_rfl) rfl #[.int .i64 a0] rfl (by (try simp only [List.map_toArray, List.map_cons, List.map_nil]); first | done | rfl | (simp only [List.length_drop, List.length_take]; rfl)) ?_; (with_reducible refine (cmp_isNaN_int.calls a0 true _ A3.out).mono ?_); rintro e w' ⟨rfl, ⟨nd, rfl⟩⟩; refine ⟨_, rfl, ?_⟩) | ((with_reducible refine gate_callee (f := 67) rfl ?_); refine goesL_ (some 10) rfl rfl Tryd.func67 (by kernel_rfl) rfl #[.int .i64 a1] rfl (by (try simp only [List.map_toArray, List.map_cons, List.map_nil]); first | done | rfl | (simp only [List.length_drop, List.length_take]; rfl)) ?_; (with_reducible refine (cmp_isNaN_int.calls a1 true _ A4.out).mono ?_); rintro e w' ⟨rfl, ⟨nd, rfl⟩⟩; refine ⟨_, rfl, ?_⟩))
      go_ret
      exact ⟨by first | rfl | (simp; done) | (simp [*]; done), by repeat (first | exact Drawn0.refl _ | apply Drawn0.step)⟩
    · replace c6 := Bool.eq_false_iff.mpr c6
      subst c6
      have H1 : (some (-1)) = some r := by rw [if_neg (show ¬ (false = true) by decide)] at H; exact H
      clear H
      have H := H1
      clear H1
      obtain rfl := Option.some.inj H
      go_enter Tryd.func60, Tryd.ntmps60
      go_wp2_with (first | ((with_reducible refine gate_callee (f := 67) rfl ?_); refine goesL_ (some 8) rfl rfl Tryd.func67 (by kernel_rfl) rfl #[.int .i64 a0] rfl (by (try simp only [List.map_toArray, List.map_cons, List.map_nil]); first | done | rfl | (simp only [List.length_drop, List.length_take]; rfl)) ?_; (with_reducible refine (cmp_isNaN_int.calls a0 true _ A3.out).mono ?_); rintro e w' ⟨rfl, ⟨nd, rfl⟩⟩; refine ⟨_, rfl, ?_⟩) | ((with_reducible refine gate_callee (f := 67) rfl ?_); refine goesL_ (some 10) rfl rfl Tryd.func67 (by kernel_rfl) rfl #[.int .i64 a1] rfl (by (try simp only [List.map_toArray, List.map_cons, List.map_nil]); first | done | rfl | (simp only [List.length_drop, List.length_take]; rfl)) ?_; (with_reducible refine (cmp_isNaN_int.calls a1 false _ A4.out).mono ?_); rintro e w' ⟨rfl, ⟨nd, rfl⟩⟩; refine ⟨_, rfl, ?_⟩))
      go_ret
      exact ⟨by first | rfl | (simp; done) | (simp [*]; done), by repeat (first | exact Drawn0.refl _ | apply Drawn0.step)⟩
  · replace c5 := Bool.eq_false_iff.mpr c5
    subst c5
    have H1 : (if t183 = true then (some 1) else (if a0 < a1 then (some (-1)) else (if a0 > a1 then (some 1) else (some 0)))) = some r := by rw [if_neg (show ¬ (false = true) by decide)] at H; exact H
    clear H
    have H := H1
    clear H1
    by_cases c7 : t183 = true
    · subst c7
      have H1 : (some 1) = some r := by rw [if_pos rfl] at H; exact H
      clear H
      have H := H1
      clear H1
      obtain rfl := Option.some.inj H
      go_enter Tryd.func60, Tryd.ntmps60
      go_wp2_with (first | ((with_reducible refine gate_callee (f := 67) rfl ?_); refine goesL_ (some 8) rfl rfl Tryd.func67 (by kernel_rfl) rfl #[.int .i64 a0] rfl (by (try simp only [List.map_toArray, List.map_cons, List.map_nil]); first | done | rfl | (simp only [List.length_drop, List.length_take]; rfl)) ?_; (with_reducible refine (cmp_isNaN_int.calls a0 false _ A3.out).mono ?_); rintro e w' ⟨rfl, ⟨nd, rfl⟩⟩; refine ⟨_, rfl, ?_⟩) | ((with_reducible refine gate_callee (f := 67) rfl ?_); refine goesL_ (some 10) rfl rfl Tryd.func67 (by kernel_rfl) rfl #[.int .i64 a1] rfl (by (try simp only [List.map_toArray, List.map_cons, List.map_nil]); first | done | rfl | (simp only [List.length_drop, List.length_take]; rfl)) ?_; (with_reducible refine (cmp_isNaN_int.calls a1 true _ A4.out).mono ?_); rintro e w' ⟨rfl, ⟨nd, rfl⟩⟩; refine ⟨_, rfl, ?_⟩))
      go_ret
      exact ⟨by first | rfl | (simp; done) | (simp [*]; done), by repeat (first | exact Drawn0.refl _ | apply Drawn0.step)⟩
    · replace c7 := Bool.eq_false_iff.mpr c7
      subst c7
      have H1 : (if a0 < a1 then (some (-1)) else (if a0 > a1 then (some 1) else (some 0))) = some r := by rw [if_neg (show ¬ (false = true) by decide)] at H; exact H
      clear H
      have H := H1
      clear H1
      by_cases c8 : a0 < a1
      · rw [if_pos c8] at H
        have c8b0 : decide (a0 < a1) = true := decide_eq_true c8
        clear c8
        obtain rfl := Option.some.inj H
        go_enter Tryd.func60, Tryd.ntmps60
        go_wp2_with (first | ((with_reducible refine gate_callee (f := 67) rfl ?_); refine goesL_ (some 8) rfl rfl Tryd.func67 (by kernel_rfl) rfl #[.int .i64 a0] rfl (by (try simp only [List.map_toArray, List.map_cons, List.map_nil]); first | done | rfl | (simp only [List.length_drop, List.length_take]; rfl)) ?_; (with_reducible refine (cmp_isNaN_int.calls a0 false _ A3.out).mono ?_); rintro e w' ⟨rfl, ⟨nd, rfl⟩⟩; refine ⟨_, rfl, ?_⟩) | ((with_reducible refine gate_callee (f := 67) rfl ?_); refine goesL_ (some 10) rfl rfl Tryd.func67 (by kernel_rfl) rfl #[.int .i64 a1] rfl (by (try simp only [List.map_toArray, List.map_cons, List.map_nil]); first | done | rfl | (simp only [List.length_drop, List.length_take]; rfl)) ?_; (with_reducible refine (cmp_isNaN_int.calls a1 false _ A4.out).mono ?_); rintro e w' ⟨rfl, ⟨nd, rfl⟩⟩; refine ⟨_, rfl, ?_⟩))
        go_ret
        exact ⟨by first | rfl | (simp; done) | (simp [*]; done), by repeat (first | exact Drawn0.refl _ | apply Drawn0.step)⟩
      · rw [if_neg c8] at H
        have c8b0 : decide (a0 < a1) = false := decide_eq_false c8
        clear c8
        by_cases c9 : a0 > a1
        · rw [if_pos c9] at H
          have c9b0 : decide (a1 < a0) = true := decide_eq_true c9
          clear c9
          obtain rfl := Option.some.inj H
          go_enter Tryd.func60, Tryd.ntmps60
          go_wp2_with (first | ((with_reducible refine gate_callee (f := 67) rfl ?_); refine goesL_ (some 8) rfl rfl Tryd.func67 (by kernel_rfl) rfl #[.int .i64 a0] rfl (by (try simp only [List.map_toArray, List.map_cons, List.map_nil]); first | done | rfl | (simp only [List.length_drop, List.length_take]; rfl)) ?_; (with_reducible refine (cmp_isNaN_int.calls a0 false _ A3.out).mono ?_); rintro e w' ⟨rfl, ⟨nd, rfl⟩⟩; refine ⟨_, rfl, ?_⟩) | ((with_reducible refine gate_callee (f := 67) rfl ?_); refine goesL_ (some 10) rfl rfl Tryd.func67 (by kernel_rfl) rfl #[.int .i64 a1] rfl (by (try simp only [List.map_toArray, List.map_cons, List.map_nil]); first | done | rfl | (simp only [List.length_drop, List.length_take]; rfl)) ?_; (with_reducible refine (cmp_isNaN_int.calls a1 false _ A4.out).mono ?_); rintro e w' ⟨rfl, ⟨nd, rfl⟩⟩; refine ⟨_, rfl, ?_⟩))
          go_ret
          exact ⟨by first | rfl | (simp; done) | (simp [*]; done), by repeat (first | exact Drawn0.refl _ | apply Drawn0.step)⟩
        · rw [if_neg c9] at H
          have c9b0 : decide (a1 < a0) = false := decide_eq_false c9
          clear c9
          obtain rfl := Option.some.inj H
          go_enter Tryd.func60, Tryd.ntmps60
          go_wp2_with (first | ((with_reducible refine gate_callee (f := 67) rfl ?_); refine goesL_ (some 8) rfl rfl Tryd.func67 (by kernel_rfl) rfl #[.int .i64 a0] rfl (by (try simp only [List.map_toArray, List.map_cons, List.map_nil]); first | done | rfl | (simp only [List.length_drop, List.length_take]; rfl)) ?_; (with_reducible refine (cmp_isNaN_int.calls a0 false _ A3.out).mono ?_); rintro e w' ⟨rfl, ⟨nd, rfl⟩⟩; refine ⟨_, rfl, ?_⟩) | ((with_reducible refine gate_callee (f := 67) rfl ?_); refine goesL_ (some 10) rfl rfl Tryd.func67 (by kernel_rfl) rfl #[.int .i64 a1] rfl (by (try simp only [List.map_toArray, List.map_cons, List.map_nil]); first | done | rfl | (simp only [List.length_drop, List.length_take]; rfl)) ?_; (with_reducible refine (cmp_isNaN_int.calls a1 false _ A4.out).mono ?_); rintro e w' ⟨rfl, ⟨nd, rfl⟩⟩; refine ⟨_, rfl, ?_⟩))
          go_ret
          exact ⟨by first | rfl | (simp; done) | (simp [*]; done), by repeat (first | exact Drawn0.refl _ | apply Drawn0.step)⟩

end Go.Proofs.YtjmnaipoccpbmaaDoor.P
end
