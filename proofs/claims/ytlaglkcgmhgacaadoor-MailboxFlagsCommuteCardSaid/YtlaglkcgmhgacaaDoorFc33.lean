/- Several texts in one, each in its own section. The last: The example of the laws, reckoned: four changes, the box that they come to. -/
import Derived.Test.YtlaglkcgmhgacaaDoorFc10
import Derived.Test.YtlaglkcgmhgacaaDoorFc31
import Derived.Test.YtlaglkcgmhgacaaDoorFc19
import Derived.Test.YtlaglkcgmhgacaaDoorFc20
import Derived.Test.YtlaglkcgmhgacaaDoorFc25
import Derived.Test.YtlaglkcgmhgacaaDoorFc27
import Derived.Test.YtlaglkcgmhgacaaDoorFc32
import Derived.KernelRfl
/- Functions of this seat as Lean functions, and that the Go code comes to their answers: written by a program of this session's. -/
section
namespace Go.Proofs.YtlaglkcgmhgacaaDoor.P
open Go.RowKit Go.Proofs.YtlaglkcgmhgacaaDoorW.PrintWords Go.Proofs.YtlaglkcgmhgacaaDoorW.PrintLast Go.Proofs.YtlaglkcgmhgacaaDoorW.PrintMore
attribute [local go_sem] max2_int min2_int max_two min_two max_three min_three max_four min_four   -- for this text's walks alone
set_option linter.unusedVariables false
set_option linter.unusedSimpArgs false

/-! ### posthouselaw8_three: function 23 -/
def posthouselaw8_three.f : Option (Int × Int × Int × (List (S58)) × (List (S61))) := (posthouselaw8_letter.f (⟨#[98]⟩ : ByteArray)).bind fun b => some (3, 5, 0, [⟨2, 3, 1, 9, ⟨b.1, b.2⟩⟩], [⟨1, 4⟩])
set_option maxRecDepth 100000 in
theorem posthouselaw8_three.calls (r1 : Int) (r2 : Int) (r3 : Int) (r4 : List (S58)) (r5 : List (S61)) (w : World) (h : posthouselaw8_three.f = some (r1, r2, r3, r4, r5)) :
    Calls Tryd.prog 23 #[] w fun e w' => ∃ v3_ v4_ : Value, e = .returned (.agg #[.int .i64 r1, .int .i64 r2, .int .i64 r3, v3_, v4_]) ∧ Kd.V k58 58 w' w.heap.size (fun k_ => (w.heap.size ≤ k_)) v3_ r4 ∧ Kd.V k61 61 w' w.heap.size (fun k_ => (w.heap.size ≤ k_)) v4_ r5 ∧ Below w.heap.size w w' := by
  obtain ⟨⟨t1, t2⟩, ht, h⟩ := Option.bind_eq_some_iff.1 h
  simp only [Option.some.injEq, Prod.mk.injEq] at h
  obtain ⟨rfl, rfl, rfl, rfl, rfl⟩ := h
  have hu := Tryd.underlying25
  have hu2 := Tryd.underlying58
  have hu3 := Tryd.underlying61
  go_enter Tryd.func23, Tryd.ntmps23
  go_wp2_with fail
  refine (posthouselaw8_letter.calls _ t1 t2 _ ht).mono ?_
  rintro e w1 ⟨_, _, rfl, ⟨A0, c0, rfl, l0, f0⟩, ⟨A1, c1, rfl, l1, f1⟩, hb⟩
  have hB := blk_call (blk_at _) hb
  have hz := hb.size
  simp only [World.size_alloc] at hz f0 f1
  have kc := bc2 hB
  have kf := bf2 hB
  replace hB := Aside0.mk hB
  replace f0 := Aside0.mk f0
  replace f1 := Aside0.mk f1
  replace hb := Aside0.mk hb
  go_wp2
  have hlt : w.heap.size ≠ w1.heap.size := by omega
  have hlt2 : w.heap.size ≠ w1.heap.size + 1 := by omega
  refine bodyPost_ret (v := .agg #[.int .i64 3, .int .i64 5, .int .i64 0, .slice (some ⟨w1.heap.size, 0, none⟩) 1 1, .slice (some ⟨w1.heap.size + 1, 0, none⟩) 1 1]) (by simp [results, Tryd.results23, go_sem, kc]) rfl ⟨_, _, rfl, ?_, ?_, ?_⟩
  · have hk : ∀ k, w.heap.size + 1 ≤ k → k ≠ w.heap.size := fun k hk => by omega
    exact V_one (blk_far (blk_far (blk_far (blk_far (blk_far (blk_later (blk_at _) _) hlt.symm _) hlt.symm _) hlt.symm _) hlt.symm _) hlt.symm _) rfl (by omega) rfl (k58_mkF _ _ (⟨2, 3, 1, 9, ⟨t1, t2⟩⟩ : S58) l0 (Kd.F_mono (Kd.F_far (Kd.F_far (Kd.F_far (Kd.F_far (Kd.F_far (Kd.F_alloc (Kd.F_alloc f0.out _) _) hk _) hk _) hk _) hk _) hk _) (fun k hk => by omega)) l1 (Kd.F_mono (Kd.F_far (Kd.F_far (Kd.F_far (Kd.F_far (Kd.F_far (Kd.F_alloc (Kd.F_alloc f1.out _) _) hk _) hk _) hk _) hk _) hk _) (fun k hk => by omega))) (Nat.le_refl _)
  · exact V_one (blk_far (blk_far (blk_far (blk_far (blk_far (blk_at1 _ _) hlt2.symm _) hlt2.symm _) hlt2.symm _) hlt2.symm _) hlt2.symm _) rfl (by omega) rfl (k61_mkF _ _ _) (Nat.le_refl _)
  · have := below_then (below_alloc (Below.refl _ w) _) (by simp) hb.out
    exact (below_set (below_set (below_set (below_set (below_set (below_alloc (below_alloc this _) _) (Nat.le_refl _)) (Nat.le_refl _)) (Nat.le_refl _)) (Nat.le_refl _)) (Nat.le_refl _))


end Go.Proofs.YtlaglkcgmhgacaaDoor.P
end
/- Functions of this seat as Lean functions, and that the Go code comes to their answers: written by a program of this session's. -/
section
namespace Go.Proofs.YtlaglkcgmhgacaaDoor.P
open Go.RowKit Go.Proofs.YtlaglkcgmhgacaaDoorW.PrintWords Go.Proofs.YtlaglkcgmhgacaaDoorW.PrintLast Go.Proofs.YtlaglkcgmhgacaaDoorW.PrintMore
attribute [local go_sem] max2_int min2_int max_two min_two max_three min_three max_four min_four   -- for this text's walks alone
set_option linter.unusedVariables false
set_option linter.unusedSimpArgs false

/-! ### posthouseref7_At: function 24 -/
def posthouseref7_At.f (a0 : Int) (a1 : Int) : Option (Int × Int) := some (a0, a1)
theorem posthouseref7_At_any (a b : Int) (w : World) : Calls Tryd.prog 24 #[.int .i64 a, .int .i64 b] w fun e w' => e = .returned (.agg #[.int .i64 a, .int .i64 b]) ∧ w' = w.alloc (.cells #[.int .i64 a, .int .i64 b] 33) := by
  have hu := Tryd.underlying33
  go_enter Tryd.func24, Tryd.ntmps24
  go_wp2
  exact bodyPost_ret (v := .agg #[.int .i64 a, .int .i64 b]) (by simp [results, Tryd.results24, go_sem]) rfl ⟨rfl, rfl⟩
theorem posthouseref7_At.calls (a0 : Int) (a1 : Int) (r1 : Int) (r2 : Int) (w : World) (h : posthouseref7_At.f a0 a1 = some (r1, r2)) :
    Calls Tryd.prog 24 #[.int .i64 a0, .int .i64 a1] w fun e w' => e = .returned (.agg #[.int .i64 r1, .int .i64 r2]) ∧ Below w.heap.size w w' := by
  obtain ⟨rfl, rfl⟩ : a0 = r1 ∧ a1 = r2 := by simpa [posthouseref7_At.f] using h
  exact (posthouseref7_At_any a0 a1 w).mono (by rintro e w' ⟨rfl, rfl⟩; exact ⟨rfl, below_alloc (Below.refl _ _) _⟩)


end Go.Proofs.YtlaglkcgmhgacaaDoor.P
end
/- Functions of this seat as Lean functions, and that the Go code comes to their answers: written by a program of this session's. -/
section
namespace Go.Proofs.YtlaglkcgmhgacaaDoor.P
open Go.RowKit Go.Proofs.YtlaglkcgmhgacaaDoorW.PrintWords Go.Proofs.YtlaglkcgmhgacaaDoorW.PrintLast Go.Proofs.YtlaglkcgmhgacaaDoorW.PrintMore
attribute [local go_sem] max2_int min2_int max_two min_two max_three min_three max_four min_four   -- for this text's walks alone
set_option linter.unusedVariables false
set_option linter.unusedSimpArgs false

/-! ### posthouselaw8_boxExample: function 8 -/
/-- The four changes of steps, and what they come to. -/
structure StepsTo (k : Nat) (s0 s1 s2 : Int) (s3 : List (S58)) (s4 : List (S61)) : Prop where
  ex : ∃ (fa fb : List (S77)) (ba bb : List Int) (p0 p1 p2 : Int) (p3 : List (S58)) (p4 : List (S61)) (q0 q1 q2 : Int) (q3 : List (S58)) (q4 : List (S61)) (r0 r1 r2 : Int) (r3 : List (S58)) (r4 : List (S61)), posthouselaw8_letter.f (⟨#[97]⟩ : ByteArray) = some (fa, ba) ∧ posthouselaw8_letter.f (⟨#[98]⟩ : ByteArray) = some (fb, bb) ∧ mailbox_Apply.f k 1 1 0 [] [] 1 0 0 0 0 fa ba = some (p0, p1, p2, p3, p4, 0, 0) ∧ mailbox_Apply.f k p0 p1 p2 p3 p4 1 0 0 0 9 fb bb = some (q0, q1, q2, q3, q4, 0, 0) ∧ mailbox_Apply.f k q0 q1 q2 q3 q4 2 2 1 0 0 [] [] = some (r0, r1, r2, r3, r4, 0, 0) ∧ mailbox_Apply.f k r0 r1 r2 r3 r4 3 1 0 0 0 [] [] = some (s0, s1, s2, s3, s4, 0, 0)
attribute [local go_sem high] eqFault
set_option maxHeartbeats 8000000 in
set_option maxRecDepth 100000 in
theorem boxExample_any (k : Nat) (s0 s1 s2 : Int) (s3 : List (S58)) (s4 : List (S61)) (u0 u1 u2 : Int) (u3 : List (S58)) (u4 : List (S61)) (x : Int) (hs : StepsTo k s0 s1 s2 s3 s4) (ht : posthouselaw8_three.f = some (u0, u1, u2, u3, u4)) (hb : posthouseref8_SameBox.f s0 s1 s2 s3 s4 u0 u1 u2 u3 u4 = some true) (hv : mailbox_Validate.f k s0 s1 s2 s3 s4 = some (0, x)) (hz : mailbox_Validate.f k 0 0 0 [] [] = some (3, -3)) (w : World) :
    Calls Tryd.prog 8 #[] w fun e w' => e = .returned (.bool true) ∧ Below w.heap.size w w' := by
  obtain ⟨fa, fb, ba, bb, p0, p1, p2, p3, p4, q0, q1, q2, q3, q4, r0, r1, r2, r3, r4, la, lb, h1, h2, h3, h4⟩ := hs.ex
  have HS := Aside0.mk (fun w => steps_any k fa fb ba bb p0 p1 p2 p3 p4 q0 q1 q2 q3 q4 r0 r1 r2 r3 r4 s0 s1 s2 s3 s4 la lb h1 h2 h3 h4 w)
  clear la lb h1 h2 h3 h4 hs
  have HT_ := Aside0.mk ht
  clear ht
  have HB_ := Aside0.mk hb
  clear hb
  have HV_ := Aside0.mk hv
  clear hv
  have HZ_ := Aside0.mk hz
  clear hz
  have hfld := fieldFault_0
  go_enter Tryd.func8, Tryd.ntmps8
  go_wp2_with fail
  have HB := Aside0.mk (Below.refl w.heap.size w)
  refine (HS.out _).mono ?_
  rintro e w1 ⟨v3_, v4_, rfl, hv3_, hv4_, hb⟩
  obtain ⟨sA, sa, rfl⟩ := Kd.V_slice hv3_
  obtain ⟨sB, sb, rfl⟩ := Kd.V_slice hv4_
  have HsV := Aside0.mk hv3_
  have HsW := Aside0.mk hv4_
  clear hv3_ hv4_
  replace HB := Aside0.mk (below_step HB.out hb)
  clear hb
  go_wp2
  replace HsV := Aside0.mk (Kd.V_alloc HsV.out (.cells #[.int .i64 s0, .int .i64 s1, .int .i64 s2, .slice sA s3.length sa, .slice sB s4.length sb] 25))
  replace HsW := Aside0.mk (Kd.V_alloc HsW.out (.cells #[.int .i64 s0, .int .i64 s1, .int .i64 s2, .slice sA s3.length sa, .slice sB s4.length sb] 25))
  replace HB := Aside0.mk (below_alloc HB.out (.cells #[.int .i64 s0, .int .i64 s1, .int .i64 s2, .slice sA s3.length sa, .slice sB s4.length sb] 25))
  have HM := Aside0.mk (blk_at (w := w1) (.cells #[.int .i64 s0, .int .i64 s1, .int .i64 s2, .slice sA s3.length sa, .slice sB s4.length sb] 25))
  generalize w1.alloc (.cells #[.int .i64 s0, .int .i64 s1, .int .i64 s2, .slice sA s3.length sa, .slice sB s4.length sb] 25) = W2 at *
  generalize w1.heap.size = t1 at *
  refine region_till 18 (fun _ => True) (fun w' : World => w'.cell? ⟨t1, 0, none⟩ = some (.int .i64 s0) ∧ w'.cell? ⟨t1, 1, none⟩ = some (.int .i64 s1) ∧ w'.cell? ⟨t1, 2, none⟩ = some (.int .i64 s2) ∧ w'.cell? ⟨t1, 3, none⟩ = some (.slice sA s3.length sa) ∧ w'.cell? ⟨t1, 4, none⟩ = some (.slice sB s4.length sb)) (by kernel_rfl) ⟨trivial, ⟨bc0 (blk_drew HM.out) 0, bc0 (blk_drew HM.out) 1, bc0 (blk_drew HM.out) 2, bc0 (blk_drew HM.out) 3, bc0 (blk_drew HM.out) 4⟩⟩ (fun hTU => ?_)
  replace HM := Aside0.mk (blk_drew HM.out)
  replace HsV := Aside0.mk (Kd.V_drew HsV.out)
  replace HsW := Aside0.mk (Kd.V_drew HsW.out)
  replace HB := Aside0.mk (below_drew1 HB.out)
  generalize W2.drew = W3 at *
  refine till_freeD (i := 0) (v := ?_) (some 7) rfl rfl (by decide) (by kernel_rfl) (by kernel_rfl) (by kernel_rfl) (fun _ _ _ h => h) (Or.inl ⟨by rfl, ?_⟩) ⟨hTU.1, fun _ => hTU.2⟩ ?_
  rotate_left
  · (intro w_ _; go_simp; try with_reducible rfl)
  try simp only [Act.put, List.setIfInBounds_toArray, List.set_cons_zero, List.set_cons_succ]
  refine till_freeD (i := 1) (v := ?_) (some 8) rfl rfl (by decide) (by kernel_rfl) (by kernel_rfl) (by kernel_rfl) (fun _ _ _ h => h) (Or.inl ⟨by rfl, ?_⟩) ⟨hTU.1, fun _ => hTU.2⟩ ?_
  rotate_left
  · (intro w_ _; go_simp; try with_reducible rfl)
  try simp only [Act.put, List.setIfInBounds_toArray, List.set_cons_zero, List.set_cons_succ]
  refine till_takeD (i := 2) (v := ?_) (some 9) rfl rfl (by kernel_rfl) (by kernel_rfl) (by kernel_rfl) (by kernel_rfl) (fun _ _ _ h => h) (Or.inl ⟨by rfl, ?_⟩) (by assumption) ?_
  rotate_left
  · (intro w_ hS_; (try dsimp only at hS_); go_simp; try with_reducible rfl)
  try simp only [Act.put, List.setIfInBounds_toArray, List.set_cons_zero, List.set_cons_succ]
  refine till_one (i := 3) (by kernel_rfl) rfl (fun K hK => ?_)
  go_simp
  go_at_call 23
  refine (posthouselaw8_three.calls u0 u1 u2 u3 u4 _ HT_.out).mono ?_
  rintro e w4 ⟨v3_, v4_, rfl, hv3_, hv4_, hb⟩
  obtain ⟨uA, ua, rfl⟩ := Kd.V_slice hv3_
  obtain ⟨uB, ub, rfl⟩ := Kd.V_slice hv4_
  have HuV := Aside0.mk hv3_
  have HuW := Aside0.mk hv4_
  clear hv3_ hv4_
  replace HM := Aside0.mk (blk_call HM.out hb)
  replace HsV := Aside0.mk (Kd.V_below HsV.out hb)
  replace HsW := Aside0.mk (Kd.V_below HsW.out hb)
  replace HB := Aside0.mk (below_step HB.out hb)
  clear hb
  refine hK.out _ _ trivial (fun _ _ => ⟨bc0 HM.out 0, bc0 HM.out 1, bc0 HM.out 2, bc0 HM.out 3, bc0 HM.out 4⟩) (fun hTV => ?_)
  clear hK K hTU
  have hTU := hTV (by kernel_rfl) (by decide)
  clear hTV
  try simp only [Act.put, List.setIfInBounds_toArray, List.set_cons_zero, List.set_cons_succ]
  refine till_one (i := 4) (by kernel_rfl) rfl (fun K hK => ?_)
  go_simp
  go_at_call 11
  refine (posthouseref8_SameBox.calls s0 s1 s2 sA sa s3 sB sb s4 u0 u1 u2 uA ua u3 uB ub u4 true _ (Kd.F_now (Kd.V_F HsV.out)) (Kd.V_at HsV.out).2.1 (Kd.F_now (Kd.V_F HsW.out)) (Kd.V_at HsW.out).2.1 (Kd.F_now (Kd.V_F HuV.out)) (Kd.V_at HuV.out).2.1 (Kd.F_now (Kd.V_F HuW.out)) (Kd.V_at HuW.out).2.1 HB_.out).mono ?_
  rintro e w5 ⟨rfl, hb⟩
  clear HuV HuW
  replace HM := Aside0.mk (blk_call HM.out hb)
  replace HsV := Aside0.mk (Kd.V_below HsV.out hb)
  replace HsW := Aside0.mk (Kd.V_below HsW.out hb)
  replace HB := Aside0.mk (below_step HB.out hb)
  clear hb
  refine hK.out _ _ trivial (fun _ _ => ⟨bc0 HM.out 0, bc0 HM.out 1, bc0 HM.out 2, bc0 HM.out 3, bc0 HM.out 4⟩) (fun hTV => ?_)
  clear hK K hTU
  have hTU := hTV (by kernel_rfl) (by decide)
  clear hTV
  try simp only [Act.put, List.setIfInBounds_toArray, List.set_cons_zero, List.set_cons_succ]
  refine till_freeD (i := 5) (v := ?_) (some 12) rfl rfl (by decide) (by kernel_rfl) (by kernel_rfl) (by kernel_rfl) (fun _ _ _ h => h) (Or.inl ⟨by rfl, ?_⟩) ⟨hTU.1, fun _ => hTU.2⟩ ?_
  rotate_left
  · (intro w_ _; go_simp; try with_reducible rfl)
  try simp only [Act.put, List.setIfInBounds_toArray, List.set_cons_zero, List.set_cons_succ]
  refine till_freeD (i := 6) (v := ?_) (some 13) rfl rfl (by decide) (by kernel_rfl) (by kernel_rfl) (by kernel_rfl) (fun _ _ _ h => h) (Or.inl ⟨by rfl, ?_⟩) ⟨hTU.1, fun _ => hTU.2⟩ ?_
  rotate_left
  · (intro w_ _; go_simp; try with_reducible rfl)
  try simp only [Act.put, List.setIfInBounds_toArray, List.set_cons_zero, List.set_cons_succ]
  refine till_takeD (i := 7) (v := ?_) (some 14) rfl rfl (by kernel_rfl) (by kernel_rfl) (by kernel_rfl) (by kernel_rfl) (fun _ _ _ h => h) (Or.inl ⟨by rfl, ?_⟩) (by assumption) ?_
  rotate_left
  · (intro w_ hS_; (try dsimp only at hS_); go_simp; try with_reducible rfl)
  try simp only [Act.put, List.setIfInBounds_toArray, List.set_cons_zero, List.set_cons_succ]
  refine till_one (i := 8) (by kernel_rfl) rfl (fun K hK => ?_)
  go_simp
  go_at_call 9
  refine (mailbox_Validate.calls k s0 s1 s2 sA sa s3 sB sb s4 0 x _ (Kd.F_now (Kd.V_F HsV.out)) (Kd.V_at HsV.out).2.1 (Kd.F_now (Kd.V_F HsW.out)) (Kd.V_at HsW.out).2.1 HV_.out).mono ?_
  rintro e w6 ⟨rfl, hb⟩
  replace HM := Aside0.mk (blk_call HM.out hb)
  replace HsV := Aside0.mk (Kd.V_below HsV.out hb)
  replace HsW := Aside0.mk (Kd.V_below HsW.out hb)
  replace HB := Aside0.mk (below_step HB.out hb)
  clear hb
  refine hK.out _ _ trivial (fun _ _ => ⟨bc0 HM.out 0, bc0 HM.out 1, bc0 HM.out 2, bc0 HM.out 3, bc0 HM.out 4⟩) (fun hTV => ?_)
  clear hK K hTU
  have hTU := hTV (by kernel_rfl) (by decide)
  clear hTV
  try simp only [Act.put, List.setIfInBounds_toArray, List.set_cons_zero, List.set_cons_succ]
  refine till_freeD (i := 9) (v := ?_) (some 16) rfl rfl (by decide) (by kernel_rfl) (by kernel_rfl) (by kernel_rfl) (fun _ _ _ h => h) (Or.inl ⟨by rfl, ?_⟩) ⟨hTU.1, fun _ => hTU.2⟩ ?_
  rotate_left
  · (intro w_ _; go_simp; try with_reducible rfl)
  try simp only [Act.put, List.setIfInBounds_toArray, List.set_cons_zero, List.set_cons_succ]
  refine till_freeD (i := 10) (v := ?_) (some 17) rfl rfl (by decide) (by kernel_rfl) (by kernel_rfl) (by kernel_rfl) (fun _ _ _ h => h) (Or.inl ⟨by rfl, ?_⟩) ⟨hTU.1, fun _ => hTU.2⟩ ?_
  rotate_left
  · (intro w_ _; go_simp; try with_reducible rfl)
  try simp only [Act.put, List.setIfInBounds_toArray, List.set_cons_zero, List.set_cons_succ]
  refine till_freeD (i := 11) (v := ?_) (some 18) rfl rfl (by decide) (by kernel_rfl) (by kernel_rfl) (by kernel_rfl) (fun _ _ _ h => h) (Or.inl ⟨by rfl, ?_⟩) ⟨hTU.1, fun _ => hTU.2⟩ ?_
  rotate_left
  · (intro w_ _; go_simp; try with_reducible rfl)
  try simp only [Act.put, List.setIfInBounds_toArray, List.set_cons_zero, List.set_cons_succ]
  refine till_freeD (i := 12) (v := ?_) (some 19) rfl rfl (by decide) (by kernel_rfl) (by kernel_rfl) (by kernel_rfl) (fun _ _ _ h => h) (Or.inl ⟨by rfl, ?_⟩) ⟨hTU.1, fun _ => hTU.2⟩ ?_
  rotate_left
  · (intro w_ _; go_simp; try with_reducible rfl)
  try simp only [Act.put, List.setIfInBounds_toArray, List.set_cons_zero, List.set_cons_succ]
  refine till_freeD (i := 13) (v := ?_) (some 20) rfl rfl (by decide) (by kernel_rfl) (by kernel_rfl) (by kernel_rfl) (fun _ _ _ h => h) (Or.inl ⟨by rfl, ?_⟩) ⟨hTU.1, fun _ => hTU.2⟩ ?_
  rotate_left
  · (intro w_ _; go_simp; try with_reducible rfl)
  try simp only [Act.put, List.setIfInBounds_toArray, List.set_cons_zero, List.set_cons_succ]
  refine till_one (i := 14) (by kernel_rfl) rfl (fun K hK => ?_)
  go_simp
  go_at_call 9
  refine (mailbox_Validate.calls k 0 0 0 none 0 [] none 0 [] 3 (-3) _ (Kd.C_nil k58 _) (Nat.le_refl _) (Kd.C_nil k61 _) (Nat.le_refl _) HZ_.out).mono ?_
  rintro e w7 ⟨rfl, hb⟩
  replace HM := Aside0.mk (blk_call HM.out hb)
  replace HsV := Aside0.mk (Kd.V_below HsV.out hb)
  replace HsW := Aside0.mk (Kd.V_below HsW.out hb)
  replace HB := Aside0.mk (below_step HB.out hb)
  clear hb
  refine hK.out _ _ trivial (fun _ _ => ⟨bc0 HM.out 0, bc0 HM.out 1, bc0 HM.out 2, bc0 HM.out 3, bc0 HM.out 4⟩) (fun hTV => ?_)
  clear hK K hTU
  have hTU := hTV (by kernel_rfl) (by decide)
  clear hTV
  try simp only [Act.put, List.setIfInBounds_toArray, List.set_cons_zero, List.set_cons_succ]
  refine till_one (i := 15) (by kernel_rfl) rfl (fun K hK => ?_)
  go_simp
  go_at_call 24
  refine (posthouseref7_At.calls 3 (-3) 3 (-3) _ rfl).mono ?_
  rintro e w8 ⟨rfl, hb⟩
  replace HM := Aside0.mk (blk_call HM.out hb)
  replace HsV := Aside0.mk (Kd.V_below HsV.out hb)
  replace HsW := Aside0.mk (Kd.V_below HsW.out hb)
  replace HB := Aside0.mk (below_step HB.out hb)
  clear hb
  refine hK.out _ _ trivial (fun _ _ => ⟨bc0 HM.out 0, bc0 HM.out 1, bc0 HM.out 2, bc0 HM.out 3, bc0 HM.out 4⟩) (fun hTV => ?_)
  clear hK K hTU
  have hTU := hTV (by kernel_rfl) (by decide)
  clear hTV
  try simp only [Act.put, List.setIfInBounds_toArray, List.set_cons_zero, List.set_cons_succ]
  refine till_freeD (i := 16) (v := ?_) (some 23) rfl rfl (by decide) (by kernel_rfl) (by kernel_rfl) (by kernel_rfl) (fun _ _ _ h => h) (Or.inl ⟨by rfl, ?_⟩) ⟨hTU.1, fun _ => hTU.2⟩ ?_
  rotate_left
  · (intro w_ _; go_simp; try with_reducible rfl)
  try simp only [Act.put, List.setIfInBounds_toArray, List.set_cons_zero, List.set_cons_succ]
  refine till_freeD (i := 17) (v := ?_) (some 24) rfl rfl (by decide) (by kernel_rfl) (by kernel_rfl) (by kernel_rfl) (fun _ _ _ h => h) (Or.inl ⟨by rfl, ?_⟩) ⟨hTU.1, fun _ => hTU.2⟩ ?_
  rotate_left
  · (intro w_ _; go_simp; try with_reducible rfl)
  try simp only [Act.put, List.setIfInBounds_toArray, List.set_cons_zero, List.set_cons_succ]
  refine till_one (i := 18) (by kernel_rfl) rfl (fun K hK => ?_)
  go_simp
  refine hK.out _ _ trivial (fun _ h => absurd rfl h) (fun _ => ?_)
  clear hK K hTU
  refine till_done (by kernel_rfl) ?_ _
  go_wp2
  go_ret
  exact ⟨rfl, HB.out⟩



end Go.Proofs.YtlaglkcgmhgacaaDoor.P
end
/- The example of the laws, reckoned: four changes, the box that they come to. -/
section
namespace Go.Proofs.YtlaglkcgmhgacaaDoor.P
open Go.RowKit
def msgA : S29 := ⟨[⟨⟨#[83, 117, 98, 106, 101, 99, 116]⟩, ⟨#[97]⟩⟩], [120, 13, 10]⟩
def msgB : S29 := ⟨[⟨⟨#[83, 117, 98, 106, 101, 99, 116]⟩, ⟨#[98]⟩⟩], [120, 13, 10]⟩
theorem letter_a : posthouselaw8_letter.f (⟨#[97]⟩ : ByteArray) = some (msgA.f0, msgA.f1) := by kernel_rfl
theorem letter_b : posthouselaw8_letter.f (⟨#[98]⟩ : ByteArray) = some (msgB.f0, msgB.f1) := by kernel_rfl
theorem step_1 : mailbox_Apply.f 100 1 1 0 [] [] 1 0 0 0 0 msgA.f0 msgA.f1 = some (2, 2, 0, [⟨1, 1, 0, 0, msgA⟩], [], 0, 0) := by kernel_rfl
theorem step_2 : mailbox_Apply.f 100 2 2 0 [⟨1, 1, 0, 0, msgA⟩] [] 1 0 0 0 9 msgB.f0 msgB.f1 = some (3, 3, 0, [⟨1, 1, 0, 0, msgA⟩, ⟨2, 2, 0, 9, msgB⟩], [], 0, 0) := by kernel_rfl
theorem step_3 : mailbox_Apply.f 100 3 3 0 [⟨1, 1, 0, 0, msgA⟩, ⟨2, 2, 0, 9, msgB⟩] [] 2 2 1 0 0 [] [] = some (3, 4, 0, [⟨1, 1, 0, 0, msgA⟩, ⟨2, 3, 1, 9, msgB⟩], [], 0, 0) := by kernel_rfl
theorem step_4 : mailbox_Apply.f 100 3 4 0 [⟨1, 1, 0, 0, msgA⟩, ⟨2, 3, 1, 9, msgB⟩] [] 3 1 0 0 0 [] [] = some (3, 5, 0, [⟨2, 3, 1, 9, msgB⟩], [⟨1, 4⟩], 0, 0) := by kernel_rfl
theorem three_is : posthouselaw8_three.f = some (3, 5, 0, [⟨2, 3, 1, 9, msgB⟩], [⟨1, 4⟩]) := by kernel_rfl
/-- The example holds. -/
theorem boxExample_true (w : World) : Calls Tryd.prog 8 #[] w fun e w' => e = .returned (.bool true) ∧ Below w.heap.size w w' :=
  boxExample_any 100 3 5 0 [⟨2, 3, 1, 9, msgB⟩] [⟨1, 4⟩] 3 5 0 [⟨2, 3, 1, 9, msgB⟩] [⟨1, 4⟩] 0 ⟨⟨_, _, _, _, _, _, _, _, _, _, _, _, _, _, _, _, _, _, _, letter_a, letter_b, step_1, step_2, step_3, step_4⟩⟩ three_is (by kernel_rfl) (by kernel_rfl) (by kernel_rfl) w
end Go.Proofs.YtlaglkcgmhgacaaDoor.P
end
