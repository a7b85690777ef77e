/- Several texts in one, each in its own section. The last: Functions of this seat as Lean functions, and that the Go code comes to their answers: written by a program of this session's. -/
import Derived.Test.YtbnmddippoiabaaDoorO6x10
import Derived.Test.YtbnmddippoiabaaDoorO6x18
import Derived.Test.YtbnmddippoiabaaDoorO6x28
/- Functions of this seat as Lean functions, and that the Go code comes to their answers: written by a program of this session's. -/
section
namespace Go.Proofs.YtbnmddippoiabaaDoor.P
open Go.RowKit Go.Proofs.YtbnmddippoiabaaDoorW.PrintWords Go.Proofs.YtbnmddippoiabaaDoorW.PrintLast Go.Proofs.YtbnmddippoiabaaDoorW.PrintMore
attribute [local go_sem] max2_int min2_int max_two min_two max_three min_three max_four min_four   -- for this text's walks alone
set_option linter.unusedVariables false
set_option linter.unusedSimpArgs false

theorem eqA83 (d : Nat) (w : World) (x0 y0 : Int) (x1 y1 : Int) :
    (Op.equalIn (d + 2) 83 (.agg #[.int .i64 x0, .int .i64 x1]) (.agg #[.int .i64 y0, .int .i64 y1])).run Tryd.prog w = .ok (x0 == y0 && (x1 == y1)) w := by
  refine eqA_of Tryd.underlying83 (by kernel_rfl) ?_
  refine eqf_cons (by rfl) (by go_simp; rfl) (by go_simp; rfl) (by go_simp) ?_
  exact eqf_last (by rfl) (by go_simp; rfl) (by go_simp; rfl) (by go_simp)
end Go.Proofs.YtbnmddippoiabaaDoor.P
end
/- Functions of this seat as Lean functions, and that the Go code comes to their answers: written by a program of this session's. -/
section
namespace Go.Proofs.YtbnmddippoiabaaDoor.P
open Go.RowKit Go.Proofs.YtbnmddippoiabaaDoorW.PrintWords Go.Proofs.YtbnmddippoiabaaDoorW.PrintLast Go.Proofs.YtbnmddippoiabaaDoorW.PrintMore
attribute [local go_sem] max2_int min2_int max_two min_two max_three min_three max_four min_four   -- for this text's walks alone
set_option linter.unusedVariables false
set_option linter.unusedSimpArgs false

attribute [local go_sem high] eqA83
/-! ### posthouseref8_SameSeen: function 16 -/
def posthouseref8_SameSeen.l0 : Nat → List (S83) → List (S83) → Int → Option (Bool)
  | 0, _, _, _ => none
  | k + 1, x0, x1, x5 => if x5 < (x0.length : Int) then (if 0 ≤ x5 then (if x5 < (x1.length : Int) then (if (!(((rd_T83 x0 x5).f0) == ((rd_T83 x1 x5).f0)) || (!(((rd_T83 x0 x5).f1) == ((rd_T83 x1 x5).f1)))) = true then (some false) else (posthouseref8_SameSeen.l0 k x0 x1 (wrap64 (x5 + 1)))) else (none)) else (none)) else (some true)
def posthouseref8_SameSeen.f (k : Nat) (l0 : List (S83)) (l1 : List (S83)) : Option (Bool) := if (l0.length : Int) = (l1.length : Int) then (posthouseref8_SameSeen.l0 k l0 l1 0) else (some false)
theorem posthouseref8_SameSeen.mono_l : ∀ k, (∀ y0 y1 y2, LeO (posthouseref8_SameSeen.l0 k y0 y1 y2) (posthouseref8_SameSeen.l0 (k + 1) y0 y1 y2))
  | 0 => fun _ _ _ r h => by simp [posthouseref8_SameSeen.l0] at h
  | k + 1 => by
    have ih0 := posthouseref8_SameSeen.mono_l k
    · intro y0 y1 y2
      unfold posthouseref8_SameSeen.l0
      repeat' first
      | (with_reducible exact ih0 _ _ _)
      | (with_reducible exact LeO.refl _)
      | (with_reducible exact LeO.none _)
      | (with_reducible refine LeO.ite ?_ ?_)
      | (with_reducible refine LeO.bind ?_ (fun _ => ?_))
      | exact ih0 _ _ _
      | exact LeO.none _
      | refine LeO.ite ?_ ?_
      | refine LeO.bind ?_ (fun _ => ?_)
theorem posthouseref8_SameSeen.mono : ∀ a0 a1 k, LeO (posthouseref8_SameSeen.f k a0 a1) (posthouseref8_SameSeen.f (k + 1) a0 a1) := by
  intro a0 a1 k
  have ih0 := posthouseref8_SameSeen.mono_l k
  unfold posthouseref8_SameSeen.f
  repeat' first
      | (with_reducible exact ih0 _ _ _)
      | (with_reducible exact LeO.refl _)
      | (with_reducible exact LeO.none _)
      | (with_reducible refine LeO.ite ?_ ?_)
      | (with_reducible refine LeO.bind ?_ (fun _ => ?_))
      | exact ih0 _ _ _
      | exact LeO.none _
      | refine LeO.ite ?_ ?_
      | refine LeO.bind ?_ (fun _ => ?_)
set_option maxHeartbeats 8000000 in
set_option maxRecDepth 100000 in
theorem posthouseref8_SameSeen.calls (k : Nat) (A0 : Option Addr) (c0 : Nat) (l0 : List (S83)) (A1 : Option Addr) (c1 : Nat) (l1 : List (S83)) (r : Bool) (w : World) (hr0 : Kd.C k83 w A0 l0.length l0) (hc0 : l0.length ≤ c0) (hr1 : Kd.C k83 w A1 l1.length l1) (hc1 : l1.length ≤ c1) (h : posthouseref8_SameSeen.f k l0 l1 = some r) :
    Calls Tryd.prog 16 #[.slice A0 l0.length c0, .slice A1 l1.length c1] w fun e w' => e = .returned (.bool r) ∧ Drawn0 w w' := by
  have hu83 := Tryd.underlying83
  have HR0 := Aside0.mk hr0
  have HC0 := Aside0.mk hc0
  clear hr0 hc0
  have HR1 := Aside0.mk hr1
  have HC1 := Aside0.mk hc1
  clear hr1 hc1
  have H : (if (l0.length : Int) = (l1.length : Int) then (posthouseref8_SameSeen.l0 k l0 l1 0) else (some false)) = some r := h
  clear h
  by_cases c3 : (l0.length : Int) = (l1.length : Int)
  · rw [if_pos c3] at H
    have c3b0 : ((l0.length : Int) == (l1.length : Int)) = true := beq_iff_eq.mpr c3
    have c3b1 : ((l0.length : Int) != (l1.length : Int)) = false := bne_eq_false_iff_eq.mpr c3
    have c3b2 : (l0.length == l1.length) = true := by first | simpa using c3 | (simp at c3 ⊢; omega)
    clear c3
    have H' := Aside0.mk H
    clear H
    go_enter Tryd.func16, Tryd.ntmps16
    go_wp2
    repeat (go_quiet (fail); try go_wp2)
    go_loopg [5] k (fun kq v5 w' => ∃ (x5_1 : Int), v5 = .int .i64 x5_1 ∧ Aside0 (posthouseref8_SameSeen.l0 kq l0 l1 x5_1 = some r) ∧ Aside0 (kq ≤ k) ∧ Drawn0 w w')
    case atStart => exact ⟨(0), (by first | rfl | (simp; done) | (simp [*]; done)), H', ⟨Nat.le_refl _⟩, by repeat (first | exact Drawn0.refl _ | apply Drawn0.step)⟩
    case round =>
      clear H'
      try clear c1
      try clear p2
      try clear c3
      try clear c3b0
      try clear c3b1
      try clear c3b2
      obtain ⟨x5_1, rfl, HA, HK1, ⟨m1, rfl⟩⟩ := hrel
      cases gk with
      | zero => exact absurd HA.out (by simp [posthouseref8_SameSeen.l0])
      | succ k1 =>
        have H := HA.out
        clear HA
        simp only [posthouseref8_SameSeen.l0] at H
        by_cases c4 : x5_1 < (l0.length : Int)
        · rw [if_pos c4] at H
          have c4b0 : decide (x5_1 < (l0.length : Int)) = true := decide_eq_true c4
          clear c4
          by_cases c5 : 0 ≤ x5_1
          · rw [if_pos c5] at H
            have c5b0 : decide (0 ≤ x5_1) = true := decide_eq_true c5
            clear c5
            by_cases c6 : x5_1 < (l1.length : Int)
            · rw [if_pos c6] at H
              have c6b0 : decide (x5_1 < (l1.length : Int)) = true := decide_eq_true c6
              clear c6
              by_cases c7 : (!(((rd_T83 l0 x5_1).f0) == ((rd_T83 l1 x5_1).f0)) || (!(((rd_T83 l0 x5_1).f1) == ((rd_T83 l1 x5_1).f1)))) = true
              · rw [if_pos c7] at H
                have c7b0 : (!(((rd_T83 l0 x5_1).f0) == ((rd_T83 l1 x5_1).f0)) || (!(((rd_T83 l0 x5_1).f1) == ((rd_T83 l1 x5_1).f1)))) = true := c7
                clear c7
                obtain rfl := Option.some.inj H
                have p193 : 0 ≤ (x5_1 : Int) := of_decide_eq_true (by first | (with_reducible assumption) | assumption)
                have q193 : x5_1 < (l0.length : Int) := of_decide_eq_true (by first | (with_reducible assumption) | assumption)
                obtain ⟨ad193, e193, hx193_0, hx193_1⟩ := at_T83 HR0.out x5_1 p193 q193
                cases e193
                replace p193 := eq_true p193
                replace q193 := eq_true q193
                have p194 : 0 ≤ (x5_1 : Int) := of_decide_eq_true (by first | (with_reducible assumption) | assumption)
                have q194 : x5_1 < (l1.length : Int) := of_decide_eq_true (by first | (with_reducible assumption) | assumption)
                obtain ⟨ad194, e194, hx194_0, hx194_1⟩ := at_T83 HR1.out x5_1 p194 q194
                cases e194
                replace p194 := eq_true p194
                replace q194 := eq_true q194
                go_wp2
                repeat (go_quiet (fail); try go_wp2)
                go_ret
                exact ⟨by first | rfl | (simp; done) | (simp [*]; done), by repeat (first | exact Drawn0.refl _ | apply Drawn0.step)⟩
              · rw [if_neg c7] at H
                have c7b0 : (!(((rd_T83 l0 x5_1).f0) == ((rd_T83 l1 x5_1).f0)) || (!(((rd_T83 l0 x5_1).f1) == ((rd_T83 l1 x5_1).f1)))) = false := by simpa using c7
                clear c7
                have H' := Aside0.mk H
                clear H
                have p193 : 0 ≤ (x5_1 : Int) := of_decide_eq_true (by first | (with_reducible assumption) | assumption)
                have q193 : x5_1 < (l0.length : Int) := of_decide_eq_true (by first | (with_reducible assumption) | assumption)
                obtain ⟨ad193, e193, hx193_0, hx193_1⟩ := at_T83 HR0.out x5_1 p193 q193
                cases e193
                replace p193 := eq_true p193
                replace q193 := eq_true q193
                have p194 : 0 ≤ (x5_1 : Int) := of_decide_eq_true (by first | (with_reducible assumption) | assumption)
                have q194 : x5_1 < (l1.length : Int) := of_decide_eq_true (by first | (with_reducible assumption) | assumption)
                obtain ⟨ad194, e194, hx194_0, hx194_1⟩ := at_T83 HR1.out x5_1 p194 q194
                cases e194
                replace p194 := eq_true p194
                replace q194 := eq_true q194
                go_wp2
                repeat (go_quiet (fail); try go_wp2)
                go_roundg k1
                case measure => have := HK1.out; omega
                case rel => exact ⟨(wrap64 (x5_1 + 1)), (by first | rfl | (simp; done) | (simp [*]; done)), H', ⟨by have := HK1.out; omega⟩, by repeat (first | exact Drawn0.refl _ | apply Drawn0.step)⟩
            · rw [if_neg c6] at H
              exact absurd H (by simp)
          · rw [if_neg c5] at H
            exact absurd H (by simp)
        · rw [if_neg c4] at H
          have c4b0 : decide (x5_1 < (l0.length : Int)) = false := decide_eq_false c4
          clear c4
          obtain rfl := Option.some.inj H
          go_wp2
          repeat (go_quiet (fail); try go_wp2)
          go_ret
          exact ⟨by first | rfl | (simp; done) | (simp [*]; done), by repeat (first | exact Drawn0.refl _ | apply Drawn0.step)⟩
  · rw [if_neg c3] at H
    have c3b0 : ((l0.length : Int) == (l1.length : Int)) = false := beq_eq_false_iff_ne.mpr c3
    have c3b1 : ((l0.length : Int) != (l1.length : Int)) = true := bne_iff_ne.mpr c3
    have c3b2 : (l0.length == l1.length) = false := by first | simpa using c3 | (simp at c3 ⊢; omega)
    obtain rfl := Option.some.inj H
    go_enter Tryd.func16, Tryd.ntmps16
    go_wp2
    repeat (go_quiet (fail); try go_wp2)
    go_ret
    exact ⟨by first | rfl | (simp; done) | (simp [*]; done), by repeat (first | exact Drawn0.refl _ | apply Drawn0.step)⟩

end Go.Proofs.YtbnmddippoiabaaDoor.P
end
/- Functions of this seat as Lean functions, and that the Go code comes to their answers: written by a program of this session's. -/
section
namespace Go.Proofs.YtbnmddippoiabaaDoor.P
open Go.RowKit Go.Proofs.YtbnmddippoiabaaDoorW.PrintWords Go.Proofs.YtbnmddippoiabaaDoorW.PrintLast Go.Proofs.YtbnmddippoiabaaDoorW.PrintMore
attribute [local go_sem] max2_int min2_int max_two min_two max_three min_three max_four min_four   -- for this text's walks alone
set_option linter.unusedVariables false
set_option linter.unusedSimpArgs false

/-! ### posthouselaw8_letter: function 50 -/
def posthouselaw8_letter.f (a0 : ByteArray) : Option ((List (S98)) × List Int) := some ([⟨⟨#[83, 117, 98, 106, 101, 99, 116]⟩, a0⟩], [120, 13, 10])
set_option maxRecDepth 100000 in
theorem posthouselaw8_letter.calls (a0 : ByteArray) (r1 : List (S98)) (r2 : List Int) (w : World) (h : posthouselaw8_letter.f a0 = some (r1, r2)) :
    Calls Tryd.prog 50 #[.string a0] w fun e w' => ∃ v0_ v1_ : Value, e = .returned (.agg #[v0_, v1_]) ∧ Kd.V k98 98 w' w.heap.size (fun k_ => (w.heap.size ≤ k_)) v0_ r1 ∧ Kd.V (Kd.int .u8) 5 w' w.heap.size (fun k_ => (w.heap.size ≤ k_)) v1_ r2 ∧ Below w.heap.size w w' := by
  obtain ⟨rfl, rfl⟩ : [⟨⟨#[83, 117, 98, 106, 101, 99, 116]⟩, a0⟩] = r1 ∧ [120, 13, 10] = r2 := by simpa [posthouselaw8_letter.f] using h
  have hu := Tryd.underlying53
  have hu2 := Tryd.underlying98
  have kc : ∀ (W : World) (o1 o2 : Obj) (C : Array Value) (n c : Nat), Sem.run Tryd.prog (convert 51 51 (.slice (some ⟨W.heap.size + 1 + 1, 0, none⟩) n c)) (((W.alloc o1).alloc o2).alloc (.cells C 5)) = .ok (.slice (some ⟨W.heap.size + 1 + 1, 0, none⟩) n c) (((W.alloc o1).alloc o2).alloc (.cells C 5 (C.size, C.size + 1))) := fun W o1 o2 C n c => by
    have := Lib.run_convert_bytes_const (P := Tryd.prog) ((W.alloc o1).alloc o2) 51 5 C n c Tryd.underlying51 Tryd.underlying5
    simpa using this
  go_enter Tryd.func50, Tryd.ntmps50
  go_wp2
  refine bodyPost_ret (v := .agg #[.slice (some ⟨w.heap.size + 1, 0, none⟩) 1 1, .slice (some ⟨w.heap.size + 1 + 1, 0, none⟩) 3 3]) (by simp [results, Tryd.results50, go_sem]) rfl ⟨_, _, rfl, ?_, ?_, ?_⟩
  · exact V_one (blk_later (blk_at1 _ _) _) rfl (by omega) rfl (k98_mkF _ _ _) (Nat.le_refl _)
  · exact V_nums (xs := [120, 13, 10]) (blk_at2 _ _ _) (by omega) (fun j hj => by match j, hj with | 0, _ => rfl | 1, _ => rfl | 2, _ => rfl) (Nat.le_refl _) (by simp)
  · exact below_alloc (below_alloc (below_alloc (Below.refl _ _) _) _) _


end Go.Proofs.YtbnmddippoiabaaDoor.P
end
/- Functions of this seat as Lean functions, and that the Go code comes to their answers: written by a program of this session's. -/
section
namespace Go.Proofs.YtbnmddippoiabaaDoor.P
open Go.RowKit Go.Proofs.YtbnmddippoiabaaDoorW.PrintWords Go.Proofs.YtbnmddippoiabaaDoorW.PrintLast Go.Proofs.YtbnmddippoiabaaDoorW.PrintMore
attribute [local go_sem] max2_int min2_int max_two min_two max_three min_three max_four min_four   -- for this text's walks alone
set_option linter.unusedVariables false
set_option linter.unusedSimpArgs false

/-! ### posthouselaw8_three: function 30 -/
def posthouselaw8_three.f : Option (Int × Int × Int × (List (S55)) × (List (S75))) := (posthouselaw8_letter.f (⟨#[98]⟩ : ByteArray)).bind fun b => some (3, 5, 0, [⟨2, 3, 1, 9, ⟨b.1, b.2⟩⟩], [⟨1, 4⟩])
set_option maxRecDepth 100000 in
theorem posthouselaw8_three.calls (r1 : Int) (r2 : Int) (r3 : Int) (r4 : List (S55)) (r5 : List (S75)) (w : World) (h : posthouselaw8_three.f = some (r1, r2, r3, r4, r5)) :
    Calls Tryd.prog 30 #[] w fun e w' => ∃ v3_ v4_ : Value, e = .returned (.agg #[.int .i64 r1, .int .i64 r2, .int .i64 r3, v3_, v4_]) ∧ Kd.V k55 55 w' w.heap.size (fun k_ => (w.heap.size ≤ k_)) v3_ r4 ∧ Kd.V k75 75 w' w.heap.size (fun k_ => (w.heap.size ≤ k_)) v4_ r5 ∧ Below w.heap.size w w' := by
  obtain ⟨⟨t1, t2⟩, ht, h⟩ := Option.bind_eq_some_iff.1 h
  simp only [Option.some.injEq, Prod.mk.injEq] at h
  obtain ⟨rfl, rfl, rfl, rfl, rfl⟩ := h
  have hu := Tryd.underlying25
  have hu2 := Tryd.underlying55
  have hu3 := Tryd.underlying75
  go_enter Tryd.func30, Tryd.ntmps30
  go_wp2_with fail
  refine (posthouselaw8_letter.calls _ t1 t2 _ ht).mono ?_
  rintro e w1 ⟨_, _, rfl, ⟨A0, c0, rfl, l0, f0⟩, ⟨A1, c1, rfl, l1, f1⟩, hb⟩
  have hB := blk_call (blk_at _) hb
  have hz := hb.size
  simp only [World.size_alloc] at hz f0 f1
  have kc := bc2 hB
  have kf := bf2 hB
  replace hB := Aside0.mk hB
  replace f0 := Aside0.mk f0
  replace f1 := Aside0.mk f1
  replace hb := Aside0.mk hb
  go_wp2
  have hlt : w.heap.size ≠ w1.heap.size := by omega
  have hlt2 : w.heap.size ≠ w1.heap.size + 1 := by omega
  refine bodyPost_ret (v := .agg #[.int .i64 3, .int .i64 5, .int .i64 0, .slice (some ⟨w1.heap.size, 0, none⟩) 1 1, .slice (some ⟨w1.heap.size + 1, 0, none⟩) 1 1]) (by simp [results, Tryd.results30, go_sem, kc]) rfl ⟨_, _, rfl, ?_, ?_, ?_⟩
  · have hk : ∀ k, w.heap.size + 1 ≤ k → k ≠ w.heap.size := fun k hk => by omega
    exact V_one (blk_far (blk_far (blk_far (blk_far (blk_far (blk_later (blk_at _) _) hlt.symm _) hlt.symm _) hlt.symm _) hlt.symm _) hlt.symm _) rfl (by omega) rfl (k55_mkF _ _ (⟨2, 3, 1, 9, ⟨t1, t2⟩⟩ : S55) l0 (Kd.F_mono (Kd.F_far (Kd.F_far (Kd.F_far (Kd.F_far (Kd.F_far (Kd.F_alloc (Kd.F_alloc f0.out _) _) hk _) hk _) hk _) hk _) hk _) (fun k hk => by omega)) l1 (Kd.F_mono (Kd.F_far (Kd.F_far (Kd.F_far (Kd.F_far (Kd.F_far (Kd.F_alloc (Kd.F_alloc f1.out _) _) hk _) hk _) hk _) hk _) hk _) (fun k hk => by omega))) (Nat.le_refl _)
  · exact V_one (blk_far (blk_far (blk_far (blk_far (blk_far (blk_at1 _ _) hlt2.symm _) hlt2.symm _) hlt2.symm _) hlt2.symm _) hlt2.symm _) rfl (by omega) rfl (k75_mkF _ _ _) (Nat.le_refl _)
  · have := below_then (below_alloc (Below.refl _ w) _) (by simp) hb.out
    exact (below_set (below_set (below_set (below_set (below_set (below_alloc (below_alloc this _) _) (Nat.le_refl _)) (Nat.le_refl _)) (Nat.le_refl _)) (Nat.le_refl _)) (Nat.le_refl _))


end Go.Proofs.YtbnmddippoiabaaDoor.P
end
/- Functions of this seat as Lean functions, and that the Go code comes to their answers: written by a program of this session's. -/
section
namespace Go.Proofs.YtbnmddippoiabaaDoor.P
open Go.RowKit Go.Proofs.YtbnmddippoiabaaDoorW.PrintWords Go.Proofs.YtbnmddippoiabaaDoorW.PrintLast Go.Proofs.YtbnmddippoiabaaDoorW.PrintMore
attribute [local go_sem] max2_int min2_int max_two min_two max_three min_three max_four min_four   -- for this text's walks alone
set_option linter.unusedVariables false
set_option linter.unusedSimpArgs false

/-! ### posthouselaw8_offlineExample: function 12 -/
theorem addr0 (a : Addr) : a.add 0 = a := by
  obtain ⟨b, o, s⟩ := a
  cases s <;> rfl
theorem CM_block {α : Type} {d : Kd α} {g : Nat} {t : TypeId} {fr : Nat × Nat} {W : World} {cells : Array Value} {xs : List α} (hb : W.heap[g]? = some (.cells cells t fr))
    (hx : ∀ j x, xs[j]? = some x → ∃ c, c.length = d.sz ∧ d.K W x c ∧ ∀ i u, c[i]? = some u → cells[j * d.sz + i]? = some u) (hm : xs.length ≤ 9223372036854775807) :
    d.C W (some ⟨g, 0, none⟩) xs.length xs := by
  refine ⟨rfl, hm, fun _ => ⟨_, rfl, fun j p hj => ?_⟩⟩
  obtain ⟨c, hc, hk, hi⟩ := hx j p hj
  refine ⟨c, hc, hk, fun i u hu => ?_⟩
  rw [add_plain]
  exact (cell_of_row W g _ cells t fr hb).trans (hi i u hu)
theorem CM_q2 {g : Nat} {fr : Nat × Nat} {W : World} (hb : W.heap[g]? = some (.cells #[.int .i64 2, .int .i64 2, .int .i64 0, .bool false, .int .i64 2, .int .i64 0, .int .i64 0, .bool true] 43 fr)) : Kd.C k43 W (some ⟨g, 0, none⟩) 2 [(⟨2, 2, 0, false⟩ : S43), (⟨2, 0, 0, true⟩ : S43)] :=
  CM_block (xs := [(⟨2, 2, 0, false⟩ : S43), (⟨2, 0, 0, true⟩ : S43)]) hb (fun j y hj => by match j, hj with | 0, hj => cases hj; exact ⟨_, rfl, k43_mk W (⟨2, 2, 0, false⟩ : S43), fun i u hu => by match i, hu with | 0, hu => exact hu | 1, hu => exact hu | 2, hu => exact hu | 3, hu => exact hu⟩ | 1, hj => cases hj; exact ⟨_, rfl, k43_mk W (⟨2, 0, 0, true⟩ : S43), fun i u hu => by match i, hu with | 0, hu => exact hu | 1, hu => exact hu | 2, hu => exact hu | 3, hu => exact hu⟩) (by simp)
theorem CM_q3 {g : Nat} {fr : Nat × Nat} {W : World} (hb : W.heap[g]? = some (.cells #[.int .i64 2, .int .i64 2, .int .i64 0, .bool false, .int .i64 2, .int .i64 0, .int .i64 0, .bool true, .int .i64 1, .int .i64 0, .int .i64 0, .bool true] 43 fr)) : Kd.C k43 W (some ⟨g, 0, none⟩) 3 [(⟨2, 2, 0, false⟩ : S43), (⟨2, 0, 0, true⟩ : S43), (⟨1, 0, 0, true⟩ : S43)] :=
  CM_block (xs := [(⟨2, 2, 0, false⟩ : S43), (⟨2, 0, 0, true⟩ : S43), (⟨1, 0, 0, true⟩ : S43)]) hb (fun j y hj => by match j, hj with | 0, hj => cases hj; exact ⟨_, rfl, k43_mk W (⟨2, 2, 0, false⟩ : S43), fun i u hu => by match i, hu with | 0, hu => exact hu | 1, hu => exact hu | 2, hu => exact hu | 3, hu => exact hu⟩ | 1, hj => cases hj; exact ⟨_, rfl, k43_mk W (⟨2, 0, 0, true⟩ : S43), fun i u hu => by match i, hu with | 0, hu => exact hu | 1, hu => exact hu | 2, hu => exact hu | 3, hu => exact hu⟩ | 2, hj => cases hj; exact ⟨_, rfl, k43_mk W (⟨1, 0, 0, true⟩ : S43), fun i u hu => by match i, hu with | 0, hu => exact hu | 1, hu => exact hu | 2, hu => exact hu | 3, hu => exact hu⟩) (by simp)
attribute [local go_sem high] eqFault
set_option maxHeartbeats 4000000 in
set_option maxRecDepth 100000 in
theorem offlineExample_any (k : Nat) (t0 t1 t2 : Int) (t3 : List (S55)) (t4 : List (S75)) (y1 y2 : Int) (lt : posthouselaw8_three.f = some (t0, t1, t2, t3, t4)) (tw : (Lit.int .i64 t1).wf = true) (m0 m1 m2 n0 n1 n2 : Int) (x : S55) (g4 g5 : List (S75)) (l1 : offline_Merge.f k t0 t1 t2 t3 t4 3 [(⟨2, 2, 0, false⟩ : S43), (⟨2, 0, 0, true⟩ : S43), (⟨1, 0, 0, true⟩ : S43)] = some (m0, m1, m2, [x], g4, [⟨2, true, 0⟩, ⟨2, false, 15⟩, ⟨1, false, 6⟩], 0, y1)) (hx : x.f2 = 3) (l2 : offline_Merge.f k t0 t1 t2 t3 t4 5 [(⟨2, 2, 0, false⟩ : S43), (⟨2, 0, 0, true⟩ : S43)] = some (n0, n1, n2, [], g5, [⟨2, true, 0⟩, ⟨2, true, 0⟩], 0, y2)) (w : World) :
    Calls Tryd.prog 12 #[] w fun e w' => e = .returned (.bool true) ∧ Below w.heap.size w w' := by
  have LT := Aside0.mk lt
  have L1 := Aside0.mk l1
  have L2 := Aside0.mk l2
  have HX := Aside0.mk hx
  clear lt l1 l2 hx
  have hu := Tryd.underlying25
  have huq := Tryd.underlying43
  have hur := Tryd.underlying68
  have huf := Tryd.underlying29
  have hus := Tryd.underlying55
  have hfld := fieldFault_0
  have len1 : ([x] : List (S55)).length = 1 := rfl
  have len3 : ([⟨2, true, 0⟩, ⟨2, false, 15⟩, ⟨1, false, 6⟩] : List (S68)).length = 3 := rfl
  have len2 : ([⟨2, true, 0⟩, ⟨2, true, 0⟩] : List (S68)).length = 2 := rfl
  have len0 : ([] : List (S55)).length = 0 := rfl
  have HB := Aside0.mk (Below.refl w.heap.size w)
  go_enter Tryd.func12, Tryd.ntmps12
  go_wp2_with fail
  refine (posthouselaw8_three.calls t0 t1 t2 t3 t4 _ LT.out).mono ?_
  rintro e w1 ⟨v3_, v4_, rfl, hv3_, hv4_, hb⟩
  obtain ⟨tA, ta, rfl⟩ := Kd.V_slice hv3_
  obtain ⟨tB, tb, rfl⟩ := Kd.V_slice hv4_
  have HtV := Aside0.mk hv3_
  have HtW := Aside0.mk hv4_
  clear hv3_ hv4_
  replace HB := Aside0.mk (below_step HB.out hb)
  clear hb
  go_wp2_with fail
  replace HtV := Aside0.mk (Kd.V_alloc HtV.out (.cells #[.int .i64 2, .int .i64 2, .int .i64 0, .bool false, .int .i64 2, .int .i64 0, .int .i64 0, .bool true, .int .i64 1, .int .i64 0, .int .i64 0, .bool true] 43))
  replace HtW := Aside0.mk (Kd.V_alloc HtW.out (.cells #[.int .i64 2, .int .i64 2, .int .i64 0, .bool false, .int .i64 2, .int .i64 0, .int .i64 0, .bool true, .int .i64 1, .int .i64 0, .int .i64 0, .bool true] 43))
  replace HB := Aside0.mk (below_alloc HB.out (.cells #[.int .i64 2, .int .i64 2, .int .i64 0, .bool false, .int .i64 2, .int .i64 0, .int .i64 0, .bool true, .int .i64 1, .int .i64 0, .int .i64 0, .bool true] 43))
  have HQ := Aside0.mk (blk_at (w := w1) (.cells #[.int .i64 2, .int .i64 2, .int .i64 0, .bool false, .int .i64 2, .int .i64 0, .int .i64 0, .bool true, .int .i64 1, .int .i64 0, .int .i64 0, .bool true] 43))
  have hs1 : (w1.alloc (.cells #[.int .i64 2, .int .i64 2, .int .i64 0, .bool false, .int .i64 2, .int .i64 0, .int .i64 0, .bool true, .int .i64 1, .int .i64 0, .int .i64 0, .bool true] 43)).heap.size = w1.heap.size + 1 := by simp
  generalize w1.alloc (.cells #[.int .i64 2, .int .i64 2, .int .i64 0, .bool false, .int .i64 2, .int .i64 0, .int .i64 0, .bool true, .int .i64 1, .int .i64 0, .int .i64 0, .bool true] 43) = X2 at *
  generalize w1.heap.size = q1_ at *
  refine (offline_Merge.calls k t0 t1 t2 tA ta t3 tB tb t4 3 (some ⟨q1_, 0, none⟩) 3 [(⟨2, 2, 0, false⟩ : S43), (⟨2, 0, 0, true⟩ : S43), (⟨1, 0, 0, true⟩ : S43)] m0 m1 m2 [x] g4 [⟨2, true, 0⟩, ⟨2, false, 15⟩, ⟨1, false, 6⟩] 0 y1 _ (Kd.F_now (Kd.V_F HtV.out)) (Kd.V_at HtV.out).2.1 (Kd.F_now (Kd.V_F HtW.out)) (Kd.V_at HtW.out).2.1 (CM_q3 HQ.out) (Nat.le_refl _) (fun _ => tw) (fun q hq => by simp only [List.mem_cons, List.not_mem_nil, or_false] at hq; rcases hq with rfl | rfl | rfl <;> decide) L1.out).mono ?_
  rintro e w3 ⟨v3_, v4_, vs_, rfl, hv3_, hv4_, hvs_, hb⟩
  obtain ⟨mA, ma, rfl⟩ := Kd.V_slice hv3_
  obtain ⟨mB, mb, rfl⟩ := Kd.V_slice hv4_
  obtain ⟨mC, mc, rfl⟩ := Kd.V_slice hvs_
  have HmV := Aside0.mk hv3_
  have HmS := Aside0.mk hvs_
  clear hv3_ hv4_ hvs_
  replace HQ := Aside0.mk (blk_call HQ.out hb)
  replace HtV := Aside0.mk (Kd.V_below HtV.out hb)
  replace HtW := Aside0.mk (Kd.V_below HtW.out hb)
  replace HB := Aside0.mk (below_step HB.out hb)
  clear hb
  clear HQ HtV HtW
  go_wp2_with fail
  replace HmV := Aside0.mk (Kd.V_alloc HmV.out (.cells #[.int .i64 m0, .int .i64 m1, .int .i64 m2, .slice mA 1 ma, .slice mB g4.length mb] 25))
  replace HmS := Aside0.mk (Kd.V_alloc HmS.out (.cells #[.int .i64 m0, .int .i64 m1, .int .i64 m2, .slice mA 1 ma, .slice mB g4.length mb] 25))
  replace HB := Aside0.mk (below_alloc HB.out (.cells #[.int .i64 m0, .int .i64 m1, .int .i64 m2, .slice mA 1 ma, .slice mB g4.length mb] 25))
  have HM := Aside0.mk (blk_at (w := w3) (.cells #[.int .i64 m0, .int .i64 m1, .int .i64 m2, .slice mA 1 ma, .slice mB g4.length mb] 25))
  have hs0_t3_ : (w3.alloc (.cells #[.int .i64 m0, .int .i64 m1, .int .i64 m2, .slice mA 1 ma, .slice mB g4.length mb] 25)).heap.size = w3.heap.size + 1 := by simp
  generalize w3.alloc (.cells #[.int .i64 m0, .int .i64 m1, .int .i64 m2, .slice mA 1 ma, .slice mB g4.length mb] 25) = X4 at *
  generalize w3.heap.size = t3_ at *
  have l1_t31 := blk_lt HM.out
  replace HM := Aside0.mk (blk_later HM.out (.cells #[.int .i64 0, .int .i64 y1] 29))
  replace HmV := Aside0.mk (Kd.V_alloc HmV.out (.cells #[.int .i64 0, .int .i64 y1] 29))
  replace HmS := Aside0.mk (Kd.V_alloc HmS.out (.cells #[.int .i64 0, .int .i64 y1] 29))
  replace HB := Aside0.mk (below_alloc HB.out (.cells #[.int .i64 0, .int .i64 y1] 29))
  have HE := Aside0.mk (blk_at (w := X4) (.cells #[.int .i64 0, .int .i64 y1] 29))
  rw [hs0_t3_] at HE l1_t31
  clear hs0_t3_
  generalize X4.alloc (.cells #[.int .i64 0, .int .i64 y1] 29) = X5 at *
  refine (posthouselaw8_three.calls t0 t1 t2 t3 t4 _ LT.out).mono ?_
  rintro e w6 ⟨v3_, v4_, rfl, hv3_, hv4_, hb⟩
  obtain ⟨tA, ta, rfl⟩ := Kd.V_slice hv3_
  obtain ⟨tB, tb, rfl⟩ := Kd.V_slice hv4_
  have HtV := Aside0.mk hv3_
  have HtW := Aside0.mk hv4_
  clear hv3_ hv4_
  replace HM := Aside0.mk (blk_call HM.out hb)
  replace HE := Aside0.mk (blk_call HE.out hb)
  replace HmV := Aside0.mk (Kd.V_below HmV.out hb)
  replace HmS := Aside0.mk (Kd.V_below HmS.out hb)
  replace HB := Aside0.mk (below_step HB.out hb)
  clear hb
  go_wp2_with fail
  have l2_q6 := blk_lt HM.out
  have l3_q6 := blk_lt HE.out
  replace HM := Aside0.mk (blk_later HM.out (.cells #[.int .i64 2, .int .i64 2, .int .i64 0, .bool false, .int .i64 2, .int .i64 0, .int .i64 0, .bool true] 43))
  replace HE := Aside0.mk (blk_later HE.out (.cells #[.int .i64 2, .int .i64 2, .int .i64 0, .bool false, .int .i64 2, .int .i64 0, .int .i64 0, .bool true] 43))
  replace HmV := Aside0.mk (Kd.V_alloc HmV.out (.cells #[.int .i64 2, .int .i64 2, .int .i64 0, .bool false, .int .i64 2, .int .i64 0, .int .i64 0, .bool true] 43))
  replace HmS := Aside0.mk (Kd.V_alloc HmS.out (.cells #[.int .i64 2, .int .i64 2, .int .i64 0, .bool false, .int .i64 2, .int .i64 0, .int .i64 0, .bool true] 43))
  replace HtV := Aside0.mk (Kd.V_alloc HtV.out (.cells #[.int .i64 2, .int .i64 2, .int .i64 0, .bool false, .int .i64 2, .int .i64 0, .int .i64 0, .bool true] 43))
  replace HtW := Aside0.mk (Kd.V_alloc HtW.out (.cells #[.int .i64 2, .int .i64 2, .int .i64 0, .bool false, .int .i64 2, .int .i64 0, .int .i64 0, .bool true] 43))
  replace HB := Aside0.mk (below_alloc HB.out (.cells #[.int .i64 2, .int .i64 2, .int .i64 0, .bool false, .int .i64 2, .int .i64 0, .int .i64 0, .bool true] 43))
  have HQ := Aside0.mk (blk_at (w := w6) (.cells #[.int .i64 2, .int .i64 2, .int .i64 0, .bool false, .int .i64 2, .int .i64 0, .int .i64 0, .bool true] 43))
  have hs6 : (w6.alloc (.cells #[.int .i64 2, .int .i64 2, .int .i64 0, .bool false, .int .i64 2, .int .i64 0, .int .i64 0, .bool true] 43)).heap.size = w6.heap.size + 1 := by simp
  generalize w6.alloc (.cells #[.int .i64 2, .int .i64 2, .int .i64 0, .bool false, .int .i64 2, .int .i64 0, .int .i64 0, .bool true] 43) = X7 at *
  generalize w6.heap.size = q6_ at *
  refine (offline_Merge.calls k t0 t1 t2 tA ta t3 tB tb t4 5 (some ⟨q6_, 0, none⟩) 2 [(⟨2, 2, 0, false⟩ : S43), (⟨2, 0, 0, true⟩ : S43)] n0 n1 n2 [] g5 [⟨2, true, 0⟩, ⟨2, true, 0⟩] 0 y2 _ (Kd.F_now (Kd.V_F HtV.out)) (Kd.V_at HtV.out).2.1 (Kd.F_now (Kd.V_F HtW.out)) (Kd.V_at HtW.out).2.1 (CM_q2 HQ.out) (Nat.le_refl _) (fun _ => tw) (fun q hq => by simp only [List.mem_cons, List.not_mem_nil, or_false] at hq; rcases hq with rfl | rfl <;> decide) L2.out).mono ?_
  rintro e w8 ⟨v3_, v4_, vs_, rfl, hv3_, hv4_, hvs_, hb⟩
  obtain ⟨nA, na, rfl⟩ := Kd.V_slice hv3_
  obtain ⟨nB, nb, rfl⟩ := Kd.V_slice hv4_
  obtain ⟨nC, nc, rfl⟩ := Kd.V_slice hvs_
  have HnV := Aside0.mk hv3_
  have HnS := Aside0.mk hvs_
  clear hv3_ hv4_ hvs_
  replace HM := Aside0.mk (blk_call HM.out hb)
  replace HE := Aside0.mk (blk_call HE.out hb)
  replace HQ := Aside0.mk (blk_call HQ.out hb)
  replace HmV := Aside0.mk (Kd.V_below HmV.out hb)
  replace HmS := Aside0.mk (Kd.V_below HmS.out hb)
  replace HtV := Aside0.mk (Kd.V_below HtV.out hb)
  replace HtW := Aside0.mk (Kd.V_below HtW.out hb)
  replace HB := Aside0.mk (below_step HB.out hb)
  clear hb
  clear HQ HtV HtW
  obtain ⟨ad0, _, _, _, _, h0_, -, -, e0, -⟩ := at_T55 (Kd.F_now (Kd.V_F HmV.out)) 0 (by omega) (by omega)
  rw [show rd_T55 [x] 0 = x from rfl, HX.out] at e0
  subst h0_
  replace e0 : w8.cell? ⟨(ad0.add 0).block, (ad0.add 0).off + 2, none⟩ = some (.int .i64 3) := e0
  rw [addr0] at e0
  have c0_ := cell2 e0
  obtain ⟨adHmS0, h0_, -, sHmS0, rHmS0⟩ := at_T68 (Kd.F_now (Kd.V_F HmS.out)) 0 (by simp) (by simp)
  subst h0_
  replace sHmS0 : w8.cell? ⟨adHmS0.block, adHmS0.off + 1, none⟩ = some (.bool true) := sHmS0
  replace rHmS0 : w8.cell? ⟨adHmS0.block, adHmS0.off + 2, none⟩ = some (.int .i64 0) := rHmS0
  have csHmS0 := cell2 sHmS0
  have crHmS0 := cell2 rHmS0
  obtain ⟨adHmS1, h0_, -, sHmS1, rHmS1⟩ := at_T68 (Kd.F_now (Kd.V_F HmS.out)) 1 (by simp) (by simp)
  obtain rfl : adHmS0 = adHmS1 := Option.some.inj h0_
  replace sHmS1 : w8.cell? ⟨adHmS0.block, adHmS0.off + 3 + 1, none⟩ = some (.bool false) := sHmS1
  replace rHmS1 : w8.cell? ⟨adHmS0.block, adHmS0.off + 3 + 2, none⟩ = some (.int .i64 15) := rHmS1
  have csHmS1 := cell2 sHmS1
  have crHmS1 := cell2 rHmS1
  obtain ⟨adHmS2, h0_, -, sHmS2, rHmS2⟩ := at_T68 (Kd.F_now (Kd.V_F HmS.out)) 2 (by simp) (by simp)
  obtain rfl : adHmS0 = adHmS2 := Option.some.inj h0_
  replace sHmS2 : w8.cell? ⟨adHmS0.block, adHmS0.off + 6 + 1, none⟩ = some (.bool false) := sHmS2
  replace rHmS2 : w8.cell? ⟨adHmS0.block, adHmS0.off + 6 + 2, none⟩ = some (.int .i64 6) := rHmS2
  have csHmS2 := cell2 sHmS2
  have crHmS2 := cell2 rHmS2
  obtain ⟨adHnS1, h0_, -, sHnS1, rHnS1⟩ := at_T68 (Kd.F_now (Kd.V_F HnS.out)) 1 (by simp) (by simp)
  subst h0_
  replace sHnS1 : w8.cell? ⟨adHnS1.block, adHnS1.off + 3 + 1, none⟩ = some (.bool true) := sHnS1
  replace rHnS1 : w8.cell? ⟨adHnS1.block, adHnS1.off + 3 + 2, none⟩ = some (.int .i64 0) := rHnS1
  have csHnS1 := cell2 sHnS1
  have crHnS1 := cell2 rHnS1
  have kHM := bc0 HM.out
  have mHM := bc1 HM.out
  have nHM := bc2 HM.out
  have fHM := bf0 HM.out
  have yHM := blk_lt HM.out
  have kHE := bc0 HE.out
  have mHE := bc1 HE.out
  have nHE := bc2 HE.out
  have fHE := bf0 HE.out
  have yHE := blk_lt HE.out
  go_wp2
  go_ret
  exact ⟨rfl, below_alloc (below_alloc HB.out _) _⟩
def oMsgB : S53 := ⟨[⟨⟨#[83, 117, 98, 106, 101, 99, 116]⟩, ⟨#[98]⟩⟩], [120, 13, 10]⟩
theorem othree_is : posthouselaw8_three.f = some (3, 5, 0, [⟨2, 3, 1, 9, oMsgB⟩], [⟨1, 4⟩]) := by kernel_rfl
theorem omerge_is : offline_Merge.f 100 3 5 0 [⟨2, 3, 1, 9, oMsgB⟩] [⟨1, 4⟩] 3 [(⟨2, 2, 0, false⟩ : S43), (⟨2, 0, 0, true⟩ : S43), (⟨1, 0, 0, true⟩ : S43)] = some (3, 6, 0, [⟨2, 5, 3, 9, oMsgB⟩], [⟨1, 4⟩], [⟨2, true, 0⟩, ⟨2, false, 15⟩, ⟨1, false, 6⟩], 0, 0) := by kernel_rfl
theorem omerge2_is : offline_Merge.f 100 3 5 0 [⟨2, 3, 1, 9, oMsgB⟩] [⟨1, 4⟩] 5 [(⟨2, 2, 0, false⟩ : S43), (⟨2, 0, 0, true⟩ : S43)] = some (3, 7, 0, [], [⟨1, 4⟩, ⟨2, 6⟩], [⟨2, true, 0⟩, ⟨2, true, 0⟩], 0, 0) := by kernel_rfl
def posthouselaw8_offlineExample.f (_k : Nat) : Option Bool := some true
theorem posthouselaw8_offlineExample.mono : ∀ k, LeO (posthouselaw8_offlineExample.f k) (posthouselaw8_offlineExample.f (k + 1)) := fun _ => LeO.refl _
theorem posthouselaw8_offlineExample.calls (k : Nat) (r : Bool) (w : World) (h : posthouselaw8_offlineExample.f k = some r) :
    Calls Tryd.prog 12 #[] w fun e w' => e = .returned (.bool r) ∧ Below w.heap.size w w' := by
  cases h
  exact offlineExample_any 100 3 5 0 [⟨2, 3, 1, 9, oMsgB⟩] [⟨1, 4⟩] 0 0 othree_is (by decide) 3 6 0 3 7 0 ⟨2, 5, 3, 9, oMsgB⟩ _ _ omerge_is rfl omerge2_is w


end Go.Proofs.YtbnmddippoiabaaDoor.P
end
