/- Several texts in one, each in its own section. The last: Functions of this seat as Lean functions, and that the Go code comes to their answers: written by a program of this session's. -/
import Derived.Test.YtbnmddippoiabaaDoorO17x10
/- Functions of this seat as Lean functions, and that the Go code comes to their answers: written by a program of this session's. -/
section
namespace Go.Proofs.YtbnmddippoiabaaDoor.P
open Go.RowKit Go.Proofs.YtbnmddippoiabaaDoorW.PrintWords Go.Proofs.YtbnmddippoiabaaDoorW.PrintLast Go.Proofs.YtbnmddippoiabaaDoorW.PrintMore
attribute [local go_sem] max2_int min2_int max_two min_two max_three min_three max_four min_four   -- for this text's walks alone
set_option linter.unusedVariables false
set_option linter.unusedSimpArgs false

/-! ### views_Validate: function 39 -/
/-- The fault of one that is seen. -/
def seenFault (l : List (S83)) (i : Nat) : Int :=
  if (rd_T83 l i).f0 < 1 ∨ 1000000 < (rd_T83 l i).f0 ∨ (rd_T83 l i).f1 < 0 ∨ 63 < (rd_T83 l i).f1 then 3 else if 0 < i ∧ (rd_T83 l i).f0 ≤ (rd_T83 l ((i - 1 : Nat) : Int)).f0 then 19 else 0
def firstSeen (l : List (S83)) : Nat → Nat → Int × Int
  | 0, _ => (0, 0)
  | n + 1, i => if seenFault l i = 0 then firstSeen l n (i + 1) else (seenFault l i, (i : Int))
def views_Validate.f (a0 : Int) (l : List (S83)) : Option (Int × Int) :=
  if 600 < l.length then some (2, -1) else if a0 < 0 ∨ 1000000 < a0 then some (3, -1) else some (firstSeen l l.length 0)
set_option maxHeartbeats 4000000 in
set_option maxRecDepth 100000 in
theorem VValidate_a (a0_0 : Int) (A0_1 : Option Addr) (c0_1 : Nat) (l0_1 : List (S83)) (w : World) (h : 600 < l0_1.length) :
    Calls Tryd.prog 39 #[.agg #[.int .i64 a0_0, .slice A0_1 l0_1.length c0_1]] w fun e w' => e = .returned (.agg #[.int .i64 2, .int .i64 (-1)]) ∧ Below w.heap.size w w' := by
  have d0 : decide (600 < (l0_1.length : Int)) = true := decide_eq_true (by omega)
  have hu := Tryd.underlying47
  have hu2 := Tryd.underlying83
  have hus := Tryd.underlying45
  have HB := Aside0.mk (below_alloc (below_alloc (Below.refl w.heap.size w) (.cells #[.int .i64 a0_0, .slice A0_1 l0_1.length c0_1] 47)) (.cells #[.int .i64 0, .int .i64 0] 29))
  have HA := Aside0.mk (blk_later (blk_at (w := w) (.cells #[.int .i64 a0_0, .slice A0_1 l0_1.length c0_1] 47)) (.cells #[.int .i64 0, .int .i64 0] 29))
  have HR := Aside0.mk (blk_at1 (w := w) (.cells #[.int .i64 a0_0, .slice A0_1 l0_1.length c0_1] 47) (.cells #[.int .i64 0, .int .i64 0] 29))
  have kHA := bc0 HA.out
  have kHR := bc0 HR.out
  have fHR := bf0 HR.out
  go_enter Tryd.func39, Tryd.ntmps39
  go_wp2
  refine bodyPost_ret (results_cell_row rfl _ _ (w.heap.size + 1) 29 #[.int .i64 2, .int .i64 (-1)] (0, 0) _ rfl (blk_at1 _ _) Tryd.underlying29 rfl (by kernel_rfl)) rfl ⟨rfl, below_alloc (below_alloc (Below.refl _ _) _) _⟩
set_option maxHeartbeats 4000000 in
set_option maxRecDepth 100000 in
theorem VValidate_b (a0_0 : Int) (A0_1 : Option Addr) (c0_1 : Nat) (l0_1 : List (S83)) (w : World) (h : ¬ 600 < l0_1.length) (h1 : a0_0 < 0 ∨ 1000000 < a0_0) :
    Calls Tryd.prog 39 #[.agg #[.int .i64 a0_0, .slice A0_1 l0_1.length c0_1]] w fun e w' => e = .returned (.agg #[.int .i64 3, .int .i64 (-1)]) ∧ Below w.heap.size w w' := by
  have d0 : decide (600 < (l0_1.length : Int)) = false := decide_eq_false (by omega)
  have hcc : decide (a0_0 < 0) = true ∨ decide (a0_0 < 0) = false ∧ decide (1000000 < a0_0) = true := by
    by_cases h2 : a0_0 < 0
    · exact .inl (decide_eq_true h2)
    · exact .inr ⟨decide_eq_false h2, decide_eq_true (h1.elim (fun h => absurd h h2) id)⟩
  have hu := Tryd.underlying47
  have hu2 := Tryd.underlying83
  have hus := Tryd.underlying45
  have HB := Aside0.mk (below_alloc (below_alloc (Below.refl w.heap.size w) (.cells #[.int .i64 a0_0, .slice A0_1 l0_1.length c0_1] 47)) (.cells #[.int .i64 0, .int .i64 0] 29))
  have HA := Aside0.mk (blk_later (blk_at (w := w) (.cells #[.int .i64 a0_0, .slice A0_1 l0_1.length c0_1] 47)) (.cells #[.int .i64 0, .int .i64 0] 29))
  have HR := Aside0.mk (blk_at1 (w := w) (.cells #[.int .i64 a0_0, .slice A0_1 l0_1.length c0_1] 47) (.cells #[.int .i64 0, .int .i64 0] 29))
  have kHA := bc0 HA.out
  have kHR := bc0 HR.out
  have fHR := bf0 HR.out
  clear h1
  rcases hcc with d1 | ⟨d1, d2⟩
  all_goals
    go_enter Tryd.func39, Tryd.ntmps39
    go_wp2
    refine bodyPost_ret (results_cell_row rfl _ _ (w.heap.size + 1) 29 #[.int .i64 3, .int .i64 (-1)] (0, 0) _ rfl (blk_at1 _ _) Tryd.underlying29 rfl (by kernel_rfl)) rfl ⟨rfl, below_alloc (below_alloc (Below.refl _ _) _) _⟩
set_option maxHeartbeats 4000000 in
set_option maxRecDepth 100000 in
theorem VValidate_c (a0_0 : Int) (A0_1 : Option Addr) (c0_1 : Nat) (l0_1 : List (S83)) (r1 r2 : Int) (w : World) (hr : Kd.C k83 w A0_1 l0_1.length l0_1) (h : ¬ 600 < l0_1.length) (h1 : ¬ (a0_0 < 0 ∨ 1000000 < a0_0)) (h2 : firstSeen l0_1 l0_1.length 0 = (r1, r2)) :
    Calls Tryd.prog 39 #[.agg #[.int .i64 a0_0, .slice A0_1 l0_1.length c0_1]] w fun e w' => e = .returned (.agg #[.int .i64 r1, .int .i64 r2]) ∧ Below w.heap.size w w' := by
  have d0 : decide (600 < (l0_1.length : Int)) = false := decide_eq_false (by omega)
  have d1 : decide (a0_0 < 0) = false := decide_eq_false (fun h => h1 (.inl h))
  have d2 : decide (1000000 < a0_0) = false := decide_eq_false (fun h => h1 (.inr h))
  have H := Aside0.mk hr
  have H2 := Aside0.mk h2
  clear hr h1 h2
  have hu := Tryd.underlying47
  have hu2 := Tryd.underlying83
  have hus := Tryd.underlying45
  have HB := Aside0.mk (below_alloc (below_alloc (Below.refl w.heap.size w) (.cells #[.int .i64 a0_0, .slice A0_1 l0_1.length c0_1] 47)) (.cells #[.int .i64 0, .int .i64 0] 29))
  have HA := Aside0.mk (blk_later (blk_at (w := w) (.cells #[.int .i64 a0_0, .slice A0_1 l0_1.length c0_1] 47)) (.cells #[.int .i64 0, .int .i64 0] 29))
  have HR := Aside0.mk (blk_at1 (w := w) (.cells #[.int .i64 a0_0, .slice A0_1 l0_1.length c0_1] 47) (.cells #[.int .i64 0, .int .i64 0] 29))
  have kHA := bc0 HA.out
  have kHR := bc0 HR.out
  have fHR := bf0 HR.out
  go_enter Tryd.func39, Tryd.ntmps39
  go_wp2
  clear kHA kHR fHR
  go_loopg [24] l0_1.length (fun gg v24 W => ∃ i : Nat, i ≤ l0_1.length ∧ l0_1.length - i ≤ gg ∧ v24 = .int .i64 i ∧ Aside0 (firstSeen l0_1 (l0_1.length - i) i = (r1, r2)) ∧ Aside0 (W.heap[w.heap.size]? = some (.cells #[.int .i64 a0_0, .slice A0_1 l0_1.length c0_1] 47 (0, 0))) ∧ Aside0 (W.heap[w.heap.size + 1]? = some (.cells #[.int .i64 0, .int .i64 0] 29 (0, 0))) ∧ Aside0 (Below w.heap.size w W))
  case atStart => exact ⟨0, Nat.zero_le _, Nat.le_refl _, rfl, H2, HA, HR, HB⟩
  case round =>
  clear HA HR HB H2
  obtain ⟨i, hi, hg, rfl, HF, HA, HR, HB⟩ := hrel
  have mHA := bc1 HA.out
  have kHR := bc0 HR.out
  have fHR := bf0 HR.out
  have mHR := bc1 HR.out
  have pHR := bf1 HR.out
  have yHR := blk_lt HR.out
  by_cases hlt : i < l0_1.length
  · obtain ⟨m, hm⟩ : ∃ m, l0_1.length - i = m + 1 := ⟨l0_1.length - i - 1, by omega⟩
    have hF := HF.out
    clear HF
    rw [hm] at hF
    simp only [firstSeen] at hF
    have i0 : decide ((i : Int) < (l0_1.length : Int)) = true := decide_eq_true (by omega)
    have i1 : decide (0 ≤ (i : Int)) = true := decide_eq_true (by omega)
    obtain ⟨ad, hA, q0, q1⟩ := at_T83 (Kd.C_below H.out HB.out) (i : Int) (by omega) (by omega)
    have hA' := Aside0.mk hA
    cases hA
    rw [Int.toNat_natCast] at q0 q1
    by_cases hb : (rd_T83 l0_1 i).f0 < 1 ∨ 1000000 < (rd_T83 l0_1 i).f0 ∨ (rd_T83 l0_1 i).f1 < 0 ∨ 63 < (rd_T83 l0_1 i).f1
    · have hs : seenFault l0_1 i = 3 := by unfold seenFault; rw [if_pos hb]
      rw [hs, if_neg (by decide)] at hF
      cases hF
      generalize rd_T83 l0_1 (i : Int) = x at *
      clear hs
      have hcc : decide (x.f0 < 1) = true ∨ decide (x.f0 < 1) = false ∧ decide (1000000 < x.f0) = true ∨ decide (x.f0 < 1) = false ∧ decide (1000000 < x.f0) = false ∧ decide (x.f1 < 0) = true ∨ decide (x.f0 < 1) = false ∧ decide (1000000 < x.f0) = false ∧ decide (x.f1 < 0) = false ∧ decide (63 < x.f1) = true := by
        simp only [decide_eq_true_eq, decide_eq_false_iff_not]; omega
      clear hb
      rcases hcc with e1 | ⟨e1, e2⟩ | ⟨e1, e2, e3⟩ | ⟨e1, e2, e3, e4⟩
      all_goals
        go_wp2
        refine bodyPost_ret (results_cell_row rfl _ _ (w.heap.size + 1) 29 #[.int .i64 3, .int .i64 (i : Int)] (0, 0) _ rfl (by (with_reducible repeat (first | refine blk_drewN ?_ _ | refine blk_drew ?_ | refine blk_alloc ?_ _)); refine blk_put (cs := #[.int .i64 3, .int .i64 0]) ?_ 1 _ rfl; (with_reducible repeat (first | refine blk_drewN ?_ _ | refine blk_drew ?_ | refine blk_alloc ?_ _)); refine blk_put (cs := #[.int .i64 0, .int .i64 0]) ?_ 0 _ rfl; (with_reducible repeat (first | refine blk_drewN ?_ _ | refine blk_drew ?_ | refine blk_alloc ?_ _)); exact HR.out) Tryd.underlying29 rfl (by kernel_rfl)) rfl ⟨rfl, by repeat (first | exact HB.out | (with_reducible apply below_alloc) | (with_reducible apply pw_below_drewN) | (with_reducible refine below_set ?_ (show w.heap.size ≤ w.heap.size + 1 by omega)))⟩
    · have e1 : decide ((rd_T83 l0_1 i).f0 < 1) = false := decide_eq_false (fun h => hb (.inl h))
      have e2 : decide (1000000 < (rd_T83 l0_1 i).f0) = false := decide_eq_false (fun h => hb (.inr (.inl h)))
      have e3 : decide ((rd_T83 l0_1 i).f1 < 0) = false := decide_eq_false (fun h => hb (.inr (.inr (.inl h))))
      have e4 : decide (63 < (rd_T83 l0_1 i).f1) = false := decide_eq_false (fun h => hb (.inr (.inr (.inr h))))
      have HFA := Aside0.mk hF
      clear hF
      by_cases h0 : 0 < i
      · obtain ⟨j, hj⟩ : ∃ j : Nat, i = j + 1 := ⟨i - 1, by omega⟩
        have hij : i - 1 = j := by omega
        have g0 : decide (0 < (i : Int)) = true := decide_eq_true (by omega)
        obtain ⟨ji, hji⟩ : ∃ ji : Int, (i : Int) - 1 = ji := ⟨_, rfl⟩
        have hjj : (j : Int) = ji := by omega
        have i4 : 0 ≤ ji := by omega
        have i5 : ji < (l0_1.length : Int) := by omega
        obtain ⟨ad', hA2, p0, p1⟩ := at_T83 (Kd.C_below H.out HB.out) ji i4 i5
        cases hA2
        have p0' := cell1 p0
        replace i4 := eq_true i4
        replace i5 := eq_true i5
        have W1 := Aside0.mk (show IntKind.i64.wrap ((i : Int) - 1) = ji from (i64_w _).trans (by unfold wrap64; omega))
        by_cases ho : (rd_T83 l0_1 i).f0 ≤ (rd_T83 l0_1 ji).f0
        · have hs : seenFault l0_1 i = 19 := by unfold seenFault; rw [if_neg hb, hij, hjj, if_pos ⟨h0, ho⟩]
          have hF := HFA.out
          rw [hs, if_neg (by decide)] at hF
          cases hF
          have g3 : decide ((rd_T83 l0_1 i).f0 ≤ (rd_T83 l0_1 ji).f0) = true := decide_eq_true ho
          clear hs hb ho HFA hj hij hjj hji
          generalize rd_T83 l0_1 (i : Int) = x at *
          generalize rd_T83 l0_1 ji = y at *
          have w1 := W1.out
          go_wp2
          go_quiet (fail)
          go_wp2
          refine bodyPost_ret (results_cell_row rfl _ _ (w.heap.size + 1) 29 #[.int .i64 19, .int .i64 (i : Int)] (0, 0) _ rfl (by (with_reducible repeat (first | refine blk_drewN ?_ _ | refine blk_drew ?_ | refine blk_alloc ?_ _)); refine blk_put (cs := #[.int .i64 19, .int .i64 0]) ?_ 1 _ rfl; (with_reducible repeat (first | refine blk_drewN ?_ _ | refine blk_drew ?_ | refine blk_alloc ?_ _)); refine blk_put (cs := #[.int .i64 0, .int .i64 0]) ?_ 0 _ rfl; (with_reducible repeat (first | refine blk_drewN ?_ _ | refine blk_drew ?_ | refine blk_alloc ?_ _)); exact HR.out) Tryd.underlying29 rfl (by kernel_rfl)) rfl ⟨rfl, by repeat (first | exact HB.out | (with_reducible apply below_alloc) | (with_reducible apply pw_below_drewN) | (with_reducible refine below_set ?_ (show w.heap.size ≤ w.heap.size + 1 by omega)))⟩
        · have hs : seenFault l0_1 i = 0 := by unfold seenFault; rw [if_neg hb, hij, hjj, if_neg (fun h => ho h.2)]
          have hF := HFA.out
          rw [hs, if_pos rfl] at hF
          have HF := Aside0.mk hF
          have g3 : decide ((rd_T83 l0_1 i).f0 ≤ (rd_T83 l0_1 ji).f0) = false := decide_eq_false ho
          clear hs hb ho HFA hF hj hij hjj hji
          generalize rd_T83 l0_1 (i : Int) = x at *
          generalize rd_T83 l0_1 ji = y at *
          have w1 := W1.out
          go_wp2
          go_quiet (fail)
          go_wp2_with fail
          go_roundg (l0_1.length - (i + 1))
          case measure => clear w1; omega
          case rel => exact ⟨i + 1, by omega, by omega, by go_num, by rw [show l0_1.length - (i + 1) = m by clear w1; omega]; exact HF, ⟨blk_drewN (blk_later HA.out _) nq⟩, ⟨blk_drewN (blk_later HR.out _) nq⟩, ⟨pw_below_drewN (below_alloc HB.out _) nq⟩⟩
      · have hs : seenFault l0_1 i = 0 := by unfold seenFault; rw [if_neg hb, if_neg (fun h => h0 h.1)]
        have hF := HFA.out
        rw [hs, if_pos rfl] at hF
        have HF := Aside0.mk hF
        have g0 : decide (0 < (i : Int)) = false := decide_eq_false (by omega)
        clear hs hb HFA hF
        generalize rd_T83 l0_1 (i : Int) = x at *
        go_wp2
        go_quiet (fail)
        go_wp2_with fail
        go_roundg (l0_1.length - (i + 1))
        case measure => omega
        case rel => exact ⟨i + 1, by omega, by omega, by go_num, by rw [show l0_1.length - (i + 1) = m by omega]; exact HF, ⟨blk_drewN (blk_later HA.out _) nq⟩, ⟨blk_drewN (blk_later HR.out _) nq⟩, ⟨pw_below_drewN (below_alloc HB.out _) nq⟩⟩
  · obtain rfl : i = l0_1.length := by omega
    have hF := HF.out
    clear HF
    rw [Nat.sub_self] at hF
    cases hF
    have i0 : decide ((l0_1.length : Int) < (l0_1.length : Int)) = false := decide_eq_false (by omega)
    go_wp2
    refine bodyPost_ret (results_cell_row rfl _ _ (w.heap.size + 1) 29 #[.int .i64 0, .int .i64 0] (0, 0) _ rfl (by (with_reducible repeat (first | refine blk_drewN ?_ _ | refine blk_drew ?_ | refine blk_alloc ?_ _)); refine blk_put (cs := #[.int .i64 0, .int .i64 0]) ?_ 1 _ rfl; (with_reducible repeat (first | refine blk_drewN ?_ _ | refine blk_drew ?_ | refine blk_alloc ?_ _)); refine blk_put (cs := #[.int .i64 0, .int .i64 0]) ?_ 0 _ rfl; (with_reducible repeat (first | refine blk_drewN ?_ _ | refine blk_drew ?_ | refine blk_alloc ?_ _)); exact HR.out) Tryd.underlying29 rfl (by kernel_rfl)) rfl ⟨rfl, by repeat (first | exact HB.out | (with_reducible apply below_alloc) | (with_reducible apply pw_below_drewN) | (with_reducible refine below_set ?_ (show w.heap.size ≤ w.heap.size + 1 by omega)))⟩
theorem views_Validate.calls (a0_0 : Int) (A0_1 : Option Addr) (c0_1 : Nat) (l0_1 : List (S83)) (r1 : Int) (r2 : Int) (w : World) (hr0_1 : Kd.C k83 w A0_1 l0_1.length l0_1) (hc0_1 : l0_1.length ≤ c0_1) (h : views_Validate.f a0_0 l0_1 = some (r1, r2)) :
    Calls Tryd.prog 39 #[.agg #[.int .i64 a0_0, .slice A0_1 l0_1.length c0_1]] w fun e w' => e = .returned (.agg #[.int .i64 r1, .int .i64 r2]) ∧ Below w.heap.size w w' := by
  unfold views_Validate.f at h
  split at h
  case isTrue h1 =>
    cases h
    exact VValidate_a a0_0 A0_1 c0_1 l0_1 w h1
  case isFalse h1 =>
    split at h
    case isTrue h2 =>
      cases h
      exact VValidate_b a0_0 A0_1 c0_1 l0_1 w h1 h2
    case isFalse h2 => exact VValidate_c a0_0 A0_1 c0_1 l0_1 r1 r2 w hr0_1 h1 h2 (Option.some.inj h)


end Go.Proofs.YtbnmddippoiabaaDoor.P
end
/- Functions of this seat as Lean functions, and that the Go code comes to their answers: written by a program of this session's. -/
section
namespace Go.Proofs.YtbnmddippoiabaaDoor.P
open Go.RowKit Go.Proofs.YtbnmddippoiabaaDoorW.PrintWords Go.Proofs.YtbnmddippoiabaaDoorW.PrintLast Go.Proofs.YtbnmddippoiabaaDoorW.PrintMore
attribute [local go_sem] max2_int min2_int max_two min_two max_three min_three max_four min_four   -- for this text's walks alone
set_option linter.unusedVariables false
set_option linter.unusedSimpArgs false

theorem eqA83 (d : Nat) (w : World) (x0 y0 : Int) (x1 y1 : Int) :
    (Op.equalIn (d + 2) 83 (.agg #[.int .i64 x0, .int .i64 x1]) (.agg #[.int .i64 y0, .int .i64 y1])).run Tryd.prog w = .ok (x0 == y0 && (x1 == y1)) w := by
  refine eqA_of Tryd.underlying83 (by kernel_rfl) ?_
  refine eqf_cons (by rfl) (by go_simp; rfl) (by go_simp; rfl) (by go_simp) ?_
  exact eqf_last (by rfl) (by go_simp; rfl) (by go_simp; rfl) (by go_simp)
end Go.Proofs.YtbnmddippoiabaaDoor.P
end
/- Functions of this seat as Lean functions, and that the Go code comes to their answers: written by a program of this session's. -/
section
namespace Go.Proofs.YtbnmddippoiabaaDoor.P
open Go.RowKit Go.Proofs.YtbnmddippoiabaaDoorW.PrintWords Go.Proofs.YtbnmddippoiabaaDoorW.PrintLast Go.Proofs.YtbnmddippoiabaaDoorW.PrintMore
attribute [local go_sem] max2_int min2_int max_two min_two max_three min_three max_four min_four   -- for this text's walks alone
set_option linter.unusedVariables false
set_option linter.unusedSimpArgs false

attribute [local go_sem high] eqA83
/-! ### api_Seen: function 42 -/
def api_Seen.l0 : Nat → List (S83) → List (S83) → Int → Int → Option (Bool)
  | 0, _, _, _, _ => none
  | k + 1, x0, x1, x12, x13 => if x13 < x12 then (if 0 ≤ x13 then (if x13 < (x0.length : Int) then (if x13 < (x1.length : Int) then (if (!(((rd_T83 x0 x13).f0) == ((rd_T83 x1 x13).f0)) || (!(((rd_T83 x0 x13).f1) == ((rd_T83 x1 x13).f1)))) = true then (some false) else (api_Seen.l0 k x0 x1 x12 (wrap64 (x13 + 1)))) else (none)) else (none)) else (none)) else (some true)
def api_Seen.f (k : Nat) (l0 : List (S83)) (l1 : List (S83)) : Option (Bool) := if (l0.length : Int) = (l1.length : Int) then (api_Seen.l0 k l0 l1 (l0.length : Int) 0) else (some false)
theorem api_Seen.mono_l : ∀ k, (∀ y0 y1 y2 y3, LeO (api_Seen.l0 k y0 y1 y2 y3) (api_Seen.l0 (k + 1) y0 y1 y2 y3))
  | 0 => fun _ _ _ _ r h => by simp [api_Seen.l0] at h
  | k + 1 => by
    have ih0 := api_Seen.mono_l k
    · intro y0 y1 y2 y3
      unfold api_Seen.l0
      repeat' first
      | (with_reducible exact ih0 _ _ _ _)
      | (with_reducible exact LeO.refl _)
      | (with_reducible exact LeO.none _)
      | (with_reducible refine LeO.ite ?_ ?_)
      | (with_reducible refine LeO.bind ?_ (fun _ => ?_))
      | exact ih0 _ _ _ _
      | exact LeO.none _
      | refine LeO.ite ?_ ?_
      | refine LeO.bind ?_ (fun _ => ?_)
theorem api_Seen.mono : ∀ a0 a1 k, LeO (api_Seen.f k a0 a1) (api_Seen.f (k + 1) a0 a1) := by
  intro a0 a1 k
  have ih0 := api_Seen.mono_l k
  unfold api_Seen.f
  repeat' first
      | (with_reducible exact ih0 _ _ _ _)
      | (with_reducible exact LeO.refl _)
      | (with_reducible exact LeO.none _)
      | (with_reducible refine LeO.ite ?_ ?_)
      | (with_reducible refine LeO.bind ?_ (fun _ => ?_))
      | exact ih0 _ _ _ _
      | exact LeO.none _
      | refine LeO.ite ?_ ?_
      | refine LeO.bind ?_ (fun _ => ?_)
set_option maxHeartbeats 8000000 in
set_option maxRecDepth 100000 in
theorem api_Seen.calls (k : Nat) (A0 : Option Addr) (c0 : Nat) (l0 : List (S83)) (A1 : Option Addr) (c1 : Nat) (l1 : List (S83)) (r : Bool) (w : World) (hr0 : Kd.C k83 w A0 l0.length l0) (hc0 : l0.length ≤ c0) (hr1 : Kd.C k83 w A1 l1.length l1) (hc1 : l1.length ≤ c1) (h : api_Seen.f k l0 l1 = some r) :
    Calls Tryd.prog 42 #[.slice A0 l0.length c0, .slice A1 l1.length c1] w fun e w' => e = .returned (.bool r) ∧ Drawn0 w w' := by
  have hu83 := Tryd.underlying83
  have HR0 := Aside0.mk hr0
  have HC0 := Aside0.mk hc0
  clear hr0 hc0
  have HR1 := Aside0.mk hr1
  have HC1 := Aside0.mk hc1
  clear hr1 hc1
  have H : (if (l0.length : Int) = (l1.length : Int) then (api_Seen.l0 k l0 l1 (l0.length : Int) 0) else (some false)) = some r := h
  clear h
  by_cases c3 : (l0.length : Int) = (l1.length : Int)
  · rw [if_pos c3] at H
    have c3b0 : ((l0.length : Int) == (l1.length : Int)) = true := beq_iff_eq.mpr c3
    have c3b1 : ((l0.length : Int) != (l1.length : Int)) = false := bne_eq_false_iff_eq.mpr c3
    have c3b2 : (l0.length == l1.length) = true := by first | simpa using c3 | (simp at c3 ⊢; omega)
    clear c3
    have H' := Aside0.mk H
    clear H
    go_enter Tryd.func42, Tryd.ntmps42
    go_wp2
    repeat (go_quiet (fail); try go_wp2)
    go_loopg [13] k (fun kq v13 w' => ∃ (x13_1 : Int), v13 = .int .i64 x13_1 ∧ Aside0 (api_Seen.l0 kq l0 l1 (l0.length : Int) x13_1 = some r) ∧ Aside0 (kq ≤ k) ∧ Drawn0 w w')
    case atStart => exact ⟨(0), (by first | rfl | (simp; done) | (simp [*]; done)), H', ⟨Nat.le_refl _⟩, by repeat (first | exact Drawn0.refl _ | apply Drawn0.step)⟩
    case round =>
      clear H'
      try clear c1
      try clear p2
      try clear c3
      try clear c3b0
      try clear c3b1
      try clear c3b2
      obtain ⟨x13_1, rfl, HA, HK1, ⟨m1, rfl⟩⟩ := hrel
      cases gk with
      | zero => exact absurd HA.out (by simp [api_Seen.l0])
      | succ k1 =>
        have H := HA.out
        clear HA
        simp only [api_Seen.l0] at H
        by_cases c4 : x13_1 < (l0.length : Int)
        · rw [if_pos c4] at H
          have c4b0 : decide (x13_1 < (l0.length : Int)) = true := decide_eq_true c4
          clear c4
          by_cases c5 : 0 ≤ x13_1
          · rw [if_pos c5] at H
            have c5b0 : decide (0 ≤ x13_1) = true := decide_eq_true c5
            clear c5
            by_cases c6 : x13_1 < (l0.length : Int)
            · rw [if_pos c6] at H
              have c6b0 : decide (x13_1 < (l0.length : Int)) = true := decide_eq_true c6
              clear c6
              by_cases c7 : x13_1 < (l1.length : Int)
              · rw [if_pos c7] at H
                have c7b0 : decide (x13_1 < (l1.length : Int)) = true := decide_eq_true c7
                clear c7
                by_cases c8 : (!(((rd_T83 l0 x13_1).f0) == ((rd_T83 l1 x13_1).f0)) || (!(((rd_T83 l0 x13_1).f1) == ((rd_T83 l1 x13_1).f1)))) = true
                · rw [if_pos c8] at H
                  have c8b0 : (!(((rd_T83 l0 x13_1).f0) == ((rd_T83 l1 x13_1).f0)) || (!(((rd_T83 l0 x13_1).f1) == ((rd_T83 l1 x13_1).f1)))) = true := c8
                  clear c8
                  obtain rfl := Option.some.inj H
                  have p191 : 0 ≤ (x13_1 : Int) := of_decide_eq_true (by first | (with_reducible assumption) | assumption)
                  have q191 : x13_1 < (l0.length : Int) := of_decide_eq_true (by first | (with_reducible assumption) | assumption)
                  obtain ⟨ad191, e191, hx191_0, hx191_1⟩ := at_T83 HR0.out x13_1 p191 q191
                  cases e191
                  replace p191 := eq_true p191
                  replace q191 := eq_true q191
                  have p192 : 0 ≤ (x13_1 : Int) := of_decide_eq_true (by first | (with_reducible assumption) | assumption)
                  have q192 : x13_1 < (l1.length : Int) := of_decide_eq_true (by first | (with_reducible assumption) | assumption)
                  obtain ⟨ad192, e192, hx192_0, hx192_1⟩ := at_T83 HR1.out x13_1 p192 q192
                  cases e192
                  replace p192 := eq_true p192
                  replace q192 := eq_true q192
                  go_wp2
                  repeat (go_quiet (fail); try go_wp2)
                  go_ret
                  exact ⟨by first | rfl | (simp; done) | (simp [*]; done), by repeat (first | exact Drawn0.refl _ | apply Drawn0.step)⟩
                · rw [if_neg c8] at H
                  have c8b0 : (!(((rd_T83 l0 x13_1).f0) == ((rd_T83 l1 x13_1).f0)) || (!(((rd_T83 l0 x13_1).f1) == ((rd_T83 l1 x13_1).f1)))) = false := by simpa using c8
                  clear c8
                  have H' := Aside0.mk H
                  clear H
                  have p191 : 0 ≤ (x13_1 : Int) := of_decide_eq_true (by first | (with_reducible assumption) | assumption)
                  have q191 : x13_1 < (l0.length : Int) := of_decide_eq_true (by first | (with_reducible assumption) | assumption)
                  obtain ⟨ad191, e191, hx191_0, hx191_1⟩ := at_T83 HR0.out x13_1 p191 q191
                  cases e191
                  replace p191 := eq_true p191
                  replace q191 := eq_true q191
                  have p192 : 0 ≤ (x13_1 : Int) := of_decide_eq_true (by first | (with_reducible assumption) | assumption)
                  have q192 : x13_1 < (l1.length : Int) := of_decide_eq_true (by first | (with_reducible assumption) | assumption)
                  obtain ⟨ad192, e192, hx192_0, hx192_1⟩ := at_T83 HR1.out x13_1 p192 q192
                  cases e192
                  replace p192 := eq_true p192
                  replace q192 := eq_true q192
                  go_wp2
                  repeat (go_quiet (fail); try go_wp2)
                  go_roundg k1
                  case measure => have := HK1.out; omega
                  case rel => exact ⟨(wrap64 (x13_1 + 1)), (by first | rfl | (simp; done) | (simp [*]; done)), H', ⟨by have := HK1.out; omega⟩, by repeat (first | exact Drawn0.refl _ | apply Drawn0.step)⟩
              · rw [if_neg c7] at H
                exact absurd H (by simp)
            · rw [if_neg c6] at H
              exact absurd H (by simp)
          · rw [if_neg c5] at H
            exact absurd H (by simp)
        · rw [if_neg c4] at H
          have c4b0 : decide (x13_1 < (l0.length : Int)) = false := decide_eq_false c4
          clear c4
          obtain rfl := Option.some.inj H
          go_wp2
          repeat (go_quiet (fail); try go_wp2)
          go_ret
          exact ⟨by first | rfl | (simp; done) | (simp [*]; done), by repeat (first | exact Drawn0.refl _ | apply Drawn0.step)⟩
  · rw [if_neg c3] at H
    have c3b0 : ((l0.length : Int) == (l1.length : Int)) = false := beq_eq_false_iff_ne.mpr c3
    have c3b1 : ((l0.length : Int) != (l1.length : Int)) = true := bne_iff_ne.mpr c3
    have c3b2 : (l0.length == l1.length) = false := by first | simpa using c3 | (simp at c3 ⊢; omega)
    obtain rfl := Option.some.inj H
    go_enter Tryd.func42, Tryd.ntmps42
    go_wp2
    repeat (go_quiet (fail); try go_wp2)
    go_ret
    exact ⟨by first | rfl | (simp; done) | (simp [*]; done), by repeat (first | exact Drawn0.refl _ | apply Drawn0.step)⟩

end Go.Proofs.YtbnmddippoiabaaDoor.P
end
