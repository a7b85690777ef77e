/- Several texts in one, each in its own section. The last: Functions of this seat as Lean functions, and that the Go code comes to their answers: written by a program of this session's. -/
import Derived.Test.YtjmnaipoccpbmaaDoorVs10
/- Functions of this seat as Lean functions, and that the Go code comes to their answers: written by a program of this session's. -/
section
namespace Go.Proofs.YtjmnaipoccpbmaaDoor.P
open Go.RowKit Go.Proofs.YtjmnaipoccpbmaaDoorW.PrintWords Go.Proofs.YtjmnaipoccpbmaaDoorW.PrintLast Go.Proofs.YtjmnaipoccpbmaaDoorW.PrintMore
attribute [local go_sem] max2_int min2_int max_two min_two max_three min_three max_four min_four   -- for this text's walks alone
set_option linter.unusedVariables false
set_option linter.unusedSimpArgs false

/-! ### posthouselaw8_letter: function 31 -/
def posthouselaw8_letter.f (a0 : ByteArray) : Option ((List (S99)) × List Int) := some ([⟨⟨#[83, 117, 98, 106, 101, 99, 116]⟩, a0⟩], [120, 13, 10])
set_option maxRecDepth 100000 in
theorem posthouselaw8_letter.calls (a0 : ByteArray) (r1 : List (S99)) (r2 : List Int) (w : World) (h : posthouselaw8_letter.f a0 = some (r1, r2)) :
    Calls Tryd.prog 31 #[.string a0] w fun e w' => ∃ v0_ v1_ : Value, e = .returned (.agg #[v0_, v1_]) ∧ Kd.V k99 99 w' w.heap.size (fun k_ => (w.heap.size ≤ k_)) v0_ r1 ∧ Kd.V (Kd.int .u8) 5 w' w.heap.size (fun k_ => (w.heap.size ≤ k_)) v1_ r2 ∧ Below w.heap.size w w' := by
  obtain ⟨rfl, rfl⟩ : [⟨⟨#[83, 117, 98, 106, 101, 99, 116]⟩, a0⟩] = r1 ∧ [120, 13, 10] = r2 := by simpa [posthouselaw8_letter.f] using h
  have hu := Tryd.underlying29
  have hu2 := Tryd.underlying99
  have kc : ∀ (W : World) (o1 o2 : Obj) (C : Array Value) (n c : Nat), Sem.run Tryd.prog (convert 27 27 (.slice (some ⟨W.heap.size + 1 + 1, 0, none⟩) n c)) (((W.alloc o1).alloc o2).alloc (.cells C 5)) = .ok (.slice (some ⟨W.heap.size + 1 + 1, 0, none⟩) n c) (((W.alloc o1).alloc o2).alloc (.cells C 5 (C.size, C.size + 1))) := fun W o1 o2 C n c => by
    have := Lib.run_convert_bytes_const (P := Tryd.prog) ((W.alloc o1).alloc o2) 27 5 C n c Tryd.underlying27 Tryd.underlying5
    simpa using this
  go_enter Tryd.func31, Tryd.ntmps31
  go_wp2
  refine bodyPost_ret (v := .agg #[.slice (some ⟨w.heap.size + 1, 0, none⟩) 1 1, .slice (some ⟨w.heap.size + 1 + 1, 0, none⟩) 3 3]) (by simp [results, Tryd.results31, go_sem]) rfl ⟨_, _, rfl, ?_, ?_, ?_⟩
  · exact V_one (blk_later (blk_at1 _ _) _) rfl (by omega) rfl (k99_mkF _ _ _) (Nat.le_refl _)
  · exact V_nums (xs := [120, 13, 10]) (blk_at2 _ _ _) (by omega) (fun j hj => by match j, hj with | 0, _ => rfl | 1, _ => rfl | 2, _ => rfl) (Nat.le_refl _) (by simp)
  · exact below_alloc (below_alloc (below_alloc (Below.refl _ _) _) _) _


end Go.Proofs.YtjmnaipoccpbmaaDoor.P
end
/- Functions of this seat as Lean functions, and that the Go code comes to their answers: written by a program of this session's. -/
section
namespace Go.Proofs.YtjmnaipoccpbmaaDoor.P
open Go.RowKit Go.Proofs.YtjmnaipoccpbmaaDoorW.PrintWords Go.Proofs.YtjmnaipoccpbmaaDoorW.PrintLast Go.Proofs.YtjmnaipoccpbmaaDoorW.PrintMore
attribute [local go_sem] max2_int min2_int max_two min_two max_three min_three max_four min_four   -- for this text's walks alone
set_option linter.unusedVariables false
set_option linter.unusedSimpArgs false

/-! ### posthouselaw8_three: function 15 -/
def posthouselaw8_three.f : Option (Int × Int × Int × (List (S78)) × (List (S73))) := (posthouselaw8_letter.f (⟨#[98]⟩ : ByteArray)).bind fun b => some (3, 5, 0, [⟨2, 3, 1, 9, ⟨b.1, b.2⟩⟩], [⟨1, 4⟩])
set_option maxRecDepth 100000 in
theorem posthouselaw8_three.calls (r1 : Int) (r2 : Int) (r3 : Int) (r4 : List (S78)) (r5 : List (S73)) (w : World) (h : posthouselaw8_three.f = some (r1, r2, r3, r4, r5)) :
    Calls Tryd.prog 15 #[] w fun e w' => ∃ v3_ v4_ : Value, e = .returned (.agg #[.int .i64 r1, .int .i64 r2, .int .i64 r3, v3_, v4_]) ∧ Kd.V k78 78 w' w.heap.size (fun k_ => (w.heap.size ≤ k_)) v3_ r4 ∧ Kd.V k73 73 w' w.heap.size (fun k_ => (w.heap.size ≤ k_)) v4_ r5 ∧ Below w.heap.size w w' := by
  obtain ⟨⟨t1, t2⟩, ht, h⟩ := Option.bind_eq_some_iff.1 h
  simp only [Option.some.injEq, Prod.mk.injEq] at h
  obtain ⟨rfl, rfl, rfl, rfl, rfl⟩ := h
  have hu := Tryd.underlying25
  have hu2 := Tryd.underlying78
  have hu3 := Tryd.underlying73
  go_enter Tryd.func15, Tryd.ntmps15
  go_wp2_with fail
  refine (posthouselaw8_letter.calls _ t1 t2 _ ht).mono ?_
  rintro e w1 ⟨_, _, rfl, ⟨A0, c0, rfl, l0, f0⟩, ⟨A1, c1, rfl, l1, f1⟩, hb⟩
  have hB := blk_call (blk_at _) hb
  have hz := hb.size
  simp only [World.size_alloc] at hz f0 f1
  have kc := bc2 hB
  have kf := bf2 hB
  replace hB := Aside0.mk hB
  replace f0 := Aside0.mk f0
  replace f1 := Aside0.mk f1
  replace hb := Aside0.mk hb
  go_wp2
  have hlt : w.heap.size ≠ w1.heap.size := by omega
  have hlt2 : w.heap.size ≠ w1.heap.size + 1 := by omega
  refine bodyPost_ret (v := .agg #[.int .i64 3, .int .i64 5, .int .i64 0, .slice (some ⟨w1.heap.size, 0, none⟩) 1 1, .slice (some ⟨w1.heap.size + 1, 0, none⟩) 1 1]) (by simp [results, Tryd.results15, go_sem, kc]) rfl ⟨_, _, rfl, ?_, ?_, ?_⟩
  · have hk : ∀ k, w.heap.size + 1 ≤ k → k ≠ w.heap.size := fun k hk => by omega
    exact V_one (blk_far (blk_far (blk_far (blk_far (blk_far (blk_later (blk_at _) _) hlt.symm _) hlt.symm _) hlt.symm _) hlt.symm _) hlt.symm _) rfl (by omega) rfl (k78_mkF _ _ (⟨2, 3, 1, 9, ⟨t1, t2⟩⟩ : S78) l0 (Kd.F_mono (Kd.F_far (Kd.F_far (Kd.F_far (Kd.F_far (Kd.F_far (Kd.F_alloc (Kd.F_alloc f0.out _) _) hk _) hk _) hk _) hk _) hk _) (fun k hk => by omega)) l1 (Kd.F_mono (Kd.F_far (Kd.F_far (Kd.F_far (Kd.F_far (Kd.F_far (Kd.F_alloc (Kd.F_alloc f1.out _) _) hk _) hk _) hk _) hk _) hk _) (fun k hk => by omega))) (Nat.le_refl _)
  · exact V_one (blk_far (blk_far (blk_far (blk_far (blk_far (blk_at1 _ _) hlt2.symm _) hlt2.symm _) hlt2.symm _) hlt2.symm _) hlt2.symm _) rfl (by omega) rfl (k73_mkF _ _ _) (Nat.le_refl _)
  · have := below_then (below_alloc (Below.refl _ w) _) (by simp) hb.out
    exact (below_set (below_set (below_set (below_set (below_set (below_alloc (below_alloc this _) _) (Nat.le_refl _)) (Nat.le_refl _)) (Nat.le_refl _)) (Nat.le_refl _)) (Nat.le_refl _))


end Go.Proofs.YtjmnaipoccpbmaaDoor.P
end
