/- Functions of this seat as Lean functions, and that the Go code comes to their answers: written by a program of this session's. -/
import Derived.Test.YtjmnaipoccpbmaaDoorRt10
import Derived.Test.YtjmnaipoccpbmaaDoorRt19
import Derived.Test.YtjmnaipoccpbmaaDoorRt30
import Derived.Test.YtjmnaipoccpbmaaDoorRt28
import Derived.Test.YtjmnaipoccpbmaaDoorRt33
namespace Go.Proofs.YtjmnaipoccpbmaaDoor.P
open Go.RowKit Go.Proofs.YtjmnaipoccpbmaaDoorW.PrintWords Go.Proofs.YtjmnaipoccpbmaaDoorW.PrintLast Go.Proofs.YtjmnaipoccpbmaaDoorW.PrintMore
attribute [local go_sem] max2_int min2_int max_two min_two max_three min_three max_four min_four   -- for this text's walks alone
set_option linter.unusedVariables false
set_option linter.unusedSimpArgs false

/-! ### posthouselaw8_resyncExample: function 11 -/
theorem C_block {α : Type} {d : Kd α} {g : Nat} {t : TypeId} {fr : Nat × Nat} {W : World} {cells : Array Value} {xs : List α} (hb : W.heap[g]? = some (.cells cells t fr))
    (hx : ∀ j x, xs[j]? = some x → ∃ c, c.length = d.sz ∧ d.K W x c ∧ ∀ i u, c[i]? = some u → cells[j * d.sz + i]? = some u) (hm : xs.length ≤ 9223372036854775807) :
    d.C W (some ⟨g, 0, none⟩) xs.length xs := by
  refine ⟨rfl, hm, fun _ => ⟨_, rfl, fun j p hj => ?_⟩⟩
  obtain ⟨c, hc, hk, hi⟩ := hx j p hj
  refine ⟨c, hc, hk, fun i u hu => ?_⟩
  rw [add_plain]
  exact (cell_of_row W g _ cells t fr hb).trans (hi i u hu)
theorem C_seen1 {g : Nat} {fr : Nat × Nat} {W : World} {x : S58} (hb : W.heap[g]? = some (.cells #[.int .i64 x.f0, .int .i64 x.f1] 58 fr)) : Kd.C k58 W (some ⟨g, 0, none⟩) 1 [x] :=
  C_block (xs := [x]) hb (fun j y hj => by match j, hj with | 0, hj => cases hj; exact ⟨_, rfl, k58_mk W x, fun i u hu => by match i, hu with | 0, hu => exact hu | 1, hu => exact hu⟩) (by simp)
theorem C_seen2 {g : Nat} {fr : Nat × Nat} {W : World} {x y : S58} (hb : W.heap[g]? = some (.cells #[.int .i64 x.f0, .int .i64 x.f1, .int .i64 y.f0, .int .i64 y.f1] 58 fr)) : Kd.C k58 W (some ⟨g, 0, none⟩) 2 [x, y] :=
  C_block (xs := [x, y]) hb (fun j z hj => by match j, hj with | 0, hj => cases hj; exact ⟨_, rfl, k58_mk W x, fun i u hu => by match i, hu with | 0, hu => exact hu | 1, hu => exact hu⟩ | 1, hj => cases hj; exact ⟨_, rfl, k58_mk W y, fun i u hu => by match i, hu with | 0, hu => exact hu | 1, hu => exact hu⟩) (by simp)
theorem C_num1 {g : Nat} {fr : Nat × Nat} {W : World} {x : Int} (hb : W.heap[g]? = some (.cells #[.int .i64 x] 3 fr)) : Kd.C (Kd.int .i64) W (some ⟨g, 0, none⟩) 1 [x] :=
  C_block (xs := [x]) hb (fun j y hj => by match j, hj with | 0, hj => cases hj; exact ⟨[.int .i64 x], rfl, rfl, fun i u hu => by match i, hu with | 0, hu => exact hu⟩) (by simp)
attribute [local go_sem high] eqFault
set_option maxHeartbeats 4000000 in
set_option maxRecDepth 100000 in
theorem resyncExample_any (k : Nat) (t0 t1 t2 : Int) (t3 : List (S78)) (t4 : List (S73)) (x1 x2 : Int) (lt : posthouselaw8_three.f = some (t0, t1, t2, t3, t4)) (ls : resync_Since.f k t0 t1 t2 t3 t4 4 = some ([], [1], 0, x1)) (lc : resync_Catch.f k t0 t1 t2 t3 t4 3 [(⟨1, 0⟩ : S58), (⟨2, 0⟩ : S58)] = some (5, [(⟨2, 1⟩ : S58)], false, 0, x2)) (li : posthouseref7_Ints.f k [1] [1] = some true) (lv : posthouseref8_SameView.f k 5 [(⟨2, 1⟩ : S58)] 5 [(⟨2, 1⟩ : S58)] = some true) (w : World) :
    Calls Tryd.prog 11 #[] w fun e w' => e = .returned (.bool true) ∧ Below w.heap.size w w' := by
  have LT := Aside0.mk lt
  have LS := Aside0.mk ls
  have LC := Aside0.mk lc
  have LI := Aside0.mk li
  have LV := Aside0.mk lv
  clear lt ls lc li lv
  have hu := Tryd.underlying25
  have hu2 := Tryd.underlying33
  have hu3 := Tryd.underlying58
  have hfld := fieldFault_0
  have n0 : ([] : List (S58)).length = 0 := rfl
  have n1 : ([1] : List Int).length = 1 := rfl
  have n2 : ([(⟨2, 1⟩ : S58)] : List (S58)).length = 1 := rfl
  have HB := Aside0.mk (Below.refl w.heap.size w)
  go_enter Tryd.func11, Tryd.ntmps11
  go_wp2_with fail
  refine (posthouselaw8_three.calls t0 t1 t2 t3 t4 _ LT.out).mono ?_
  rintro e w1 ⟨v3_, v4_, rfl, hv3_, hv4_, hb⟩
  obtain ⟨tA, ta, rfl⟩ := Kd.V_slice hv3_
  obtain ⟨tB, tb, rfl⟩ := Kd.V_slice hv4_
  have HtV := Aside0.mk hv3_
  have HtW := Aside0.mk hv4_
  clear hv3_ hv4_
  replace HB := Aside0.mk (below_step HB.out hb)
  clear hb
  go_wp2_with fail
  refine (resync_Since.calls k t0 t1 t2 tA ta t3 tB tb t4 4 [] [1] 0 x1 _ (Kd.F_now (Kd.V_F HtV.out)) (Kd.V_at HtV.out).2.1 (Kd.F_now (Kd.V_F HtW.out)) (Kd.V_at HtW.out).2.1 LS.out).mono ?_
  rintro e w2 ⟨v0_, v1_, rfl, hv0, hv1, hb⟩
  obtain ⟨aA, aa, rfl⟩ := Kd.R_slice hv0
  obtain ⟨bA, ba, rfl⟩ := Kd.R_slice hv1
  have HbV := Aside0.mk (Kd.R_V (base' := 0) hv1)
  clear hv0 hv1
  replace HtV := Aside0.mk (Kd.V_below HtV.out hb)
  replace HtW := Aside0.mk (Kd.V_below HtW.out hb)
  replace HB := Aside0.mk (below_step HB.out hb)
  clear hb
  clear HtV HtW
  go_wp2_with fail
  replace HbV := Aside0.mk (Kd.V_alloc HbV.out (.cells #[.int .i64 0, .int .i64 x1] 35))
  replace HB := Aside0.mk (below_alloc HB.out (.cells #[.int .i64 0, .int .i64 x1] 35))
  have HE := Aside0.mk (blk_at (w := w2) (.cells #[.int .i64 0, .int .i64 x1] 35))
  have hs2 : (w2.alloc (.cells #[.int .i64 0, .int .i64 x1] 35)).heap.size = w2.heap.size + 1 := by simp
  generalize w2.alloc (.cells #[.int .i64 0, .int .i64 x1] 35) = X3 at *
  generalize w2.heap.size = t2_ at *
  refine (posthouselaw8_three.calls t0 t1 t2 t3 t4 _ LT.out).mono ?_
  rintro e w4 ⟨v3_, v4_, rfl, hv3_, hv4_, hb⟩
  obtain ⟨tA, ta, rfl⟩ := Kd.V_slice hv3_
  obtain ⟨tB, tb, rfl⟩ := Kd.V_slice hv4_
  have HtV := Aside0.mk hv3_
  have HtW := Aside0.mk hv4_
  clear hv3_ hv4_
  replace HE := Aside0.mk (blk_call HE.out hb)
  replace HbV := Aside0.mk (Kd.V_below HbV.out hb)
  replace HB := Aside0.mk (below_step HB.out hb)
  clear hb
  go_wp2_with fail
  have l1_q4 := blk_lt HE.out
  replace HE := Aside0.mk (blk_later HE.out (.cells #[.int .i64 1, .int .i64 0, .int .i64 2, .int .i64 0] 58))
  replace HbV := Aside0.mk (Kd.V_alloc HbV.out (.cells #[.int .i64 1, .int .i64 0, .int .i64 2, .int .i64 0] 58))
  replace HtV := Aside0.mk (Kd.V_alloc HtV.out (.cells #[.int .i64 1, .int .i64 0, .int .i64 2, .int .i64 0] 58))
  replace HtW := Aside0.mk (Kd.V_alloc HtW.out (.cells #[.int .i64 1, .int .i64 0, .int .i64 2, .int .i64 0] 58))
  replace HB := Aside0.mk (below_alloc HB.out (.cells #[.int .i64 1, .int .i64 0, .int .i64 2, .int .i64 0] 58))
  have HQ := Aside0.mk (blk_at (w := w4) (.cells #[.int .i64 1, .int .i64 0, .int .i64 2, .int .i64 0] 58))
  have hs4 : (w4.alloc (.cells #[.int .i64 1, .int .i64 0, .int .i64 2, .int .i64 0] 58)).heap.size = w4.heap.size + 1 := by simp
  generalize w4.alloc (.cells #[.int .i64 1, .int .i64 0, .int .i64 2, .int .i64 0] 58) = X5 at *
  generalize w4.heap.size = q4 at *
  refine (resync_Catch.calls k t0 t1 t2 tA ta t3 tB tb t4 3 (some ⟨q4, 0, none⟩) 2 [(⟨1, 0⟩ : S58), (⟨2, 0⟩ : S58)] 5 [(⟨2, 1⟩ : S58)] false 0 x2 _ (Kd.F_now (Kd.V_F HtV.out)) (Kd.V_at HtV.out).2.1 (Kd.F_now (Kd.V_F HtW.out)) (Kd.V_at HtW.out).2.1 (C_seen2 (x := (⟨1, 0⟩ : S58)) (y := (⟨2, 0⟩ : S58)) HQ.out) (Nat.le_refl _) LC.out).mono ?_
  rintro e w6 ⟨v1_, rfl, hv1, hb⟩
  obtain ⟨cA, ca, rfl⟩ := Kd.R_slice hv1
  have HcV := Aside0.mk (Kd.R_V (base' := 0) hv1)
  clear hv1
  replace HE := Aside0.mk (blk_call HE.out hb)
  replace HQ := Aside0.mk (blk_call HQ.out hb)
  replace HbV := Aside0.mk (Kd.V_below HbV.out hb)
  replace HtV := Aside0.mk (Kd.V_below HtV.out hb)
  replace HtW := Aside0.mk (Kd.V_below HtW.out hb)
  replace HB := Aside0.mk (below_step HB.out hb)
  clear hb
  clear HQ HtV HtW
  have kHE := bc0 HE.out
  have mHE := bc1 HE.out
  have nHE := bc2 HE.out
  have fHE := bf0 HE.out
  have yHE := blk_lt HE.out
  go_wp2_with fail
  clear kHE mHE nHE fHE yHE
  have l2_t6 := blk_lt HE.out
  replace HE := Aside0.mk (blk_later HE.out (.cells #[.int .i64 5, .slice cA 1 ca] 33))
  replace HbV := Aside0.mk (Kd.V_alloc HbV.out (.cells #[.int .i64 5, .slice cA 1 ca] 33))
  replace HcV := Aside0.mk (Kd.V_alloc HcV.out (.cells #[.int .i64 5, .slice cA 1 ca] 33))
  replace HB := Aside0.mk (below_alloc HB.out (.cells #[.int .i64 5, .slice cA 1 ca] 33))
  have HW := Aside0.mk (blk_at (w := w6) (.cells #[.int .i64 5, .slice cA 1 ca] 33))
  have hs_t6 : (w6.alloc (.cells #[.int .i64 5, .slice cA 1 ca] 33)).heap.size = w6.heap.size + 1 := by simp
  generalize w6.alloc (.cells #[.int .i64 5, .slice cA 1 ca] 33) = X7 at *
  generalize w6.heap.size = t6 at *
  have hz_t6 : (X7.alloc (.cells #[.int .i64 0, .int .i64 x2] 35)).heap.size = t6 + 1 + 1 := by rw [World.size_alloc, hs_t6]
  have l3_t61 := blk_lt HE.out
  have l4_t61 := blk_lt HW.out
  replace HE := Aside0.mk (blk_later HE.out (.cells #[.int .i64 0, .int .i64 x2] 35))
  replace HW := Aside0.mk (blk_later HW.out (.cells #[.int .i64 0, .int .i64 x2] 35))
  replace HbV := Aside0.mk (Kd.V_alloc HbV.out (.cells #[.int .i64 0, .int .i64 x2] 35))
  replace HcV := Aside0.mk (Kd.V_alloc HcV.out (.cells #[.int .i64 0, .int .i64 x2] 35))
  replace HB := Aside0.mk (below_alloc HB.out (.cells #[.int .i64 0, .int .i64 x2] 35))
  have HF := Aside0.mk (blk_at (w := X7) (.cells #[.int .i64 0, .int .i64 x2] 35))
  rw [hs_t6] at HF l3_t61 l4_t61
  clear hs_t6
  generalize X7.alloc (.cells #[.int .i64 0, .int .i64 x2] 35) = X8 at *
  have l5_t611 := blk_lt HE.out
  have l6_t611 := blk_lt HW.out
  have l7_t611 := blk_lt HF.out
  replace HE := Aside0.mk (blk_later HE.out (.cells #[.int .i64 1] 3))
  replace HW := Aside0.mk (blk_later HW.out (.cells #[.int .i64 1] 3))
  replace HF := Aside0.mk (blk_later HF.out (.cells #[.int .i64 1] 3))
  replace HbV := Aside0.mk (Kd.V_alloc HbV.out (.cells #[.int .i64 1] 3))
  replace HcV := Aside0.mk (Kd.V_alloc HcV.out (.cells #[.int .i64 1] 3))
  replace HB := Aside0.mk (below_alloc HB.out (.cells #[.int .i64 1] 3))
  have HJ := Aside0.mk (blk_at (w := X8) (.cells #[.int .i64 1] 3))
  rw [hz_t6] at HJ l5_t611 l6_t611 l7_t611
  clear hz_t6
  generalize X8.alloc (.cells #[.int .i64 1] 3) = X9 at *
  refine (posthouseref7_Ints.calls k bA ba [1] (some ⟨t6 + 1 + 1, 0, none⟩) 1 [1] true _ (Kd.F_now (Kd.V_F HbV.out)) (Kd.V_at HbV.out).2.1 (C_num1 HJ.out) (Nat.le_refl _) LI.out).mono ?_
  rintro e w10 ⟨rfl, hd⟩
  have hb := hd.below
  replace HE := Aside0.mk (blk_call HE.out hb)
  replace HW := Aside0.mk (blk_call HW.out hb)
  replace HF := Aside0.mk (blk_call HF.out hb)
  replace HJ := Aside0.mk (blk_call HJ.out hb)
  replace HbV := Aside0.mk (Kd.V_below HbV.out hb)
  replace HcV := Aside0.mk (Kd.V_below HcV.out hb)
  replace HB := Aside0.mk (below_step HB.out hb)
  clear hb
  clear HJ HbV
  have kHF := bc0 HF.out
  have mHF := bc1 HF.out
  have nHF := bc2 HF.out
  have fHF := bf0 HF.out
  have yHF := blk_lt HF.out
  have kHW := bc0 HW.out
  have mHW := bc1 HW.out
  have nHW := bc2 HW.out
  have fHW := bf0 HW.out
  have yHW := blk_lt HW.out
  go_wp2_with fail
  clear kHF mHF nHF fHF yHF kHW mHW nHW fHW yHW
  have l8_q10 := blk_lt HE.out
  have l9_q10 := blk_lt HW.out
  have l10_q10 := blk_lt HF.out
  replace HE := Aside0.mk (blk_later HE.out (.cells #[.int .i64 2, .int .i64 1] 58))
  replace HW := Aside0.mk (blk_later HW.out (.cells #[.int .i64 2, .int .i64 1] 58))
  replace HF := Aside0.mk (blk_later HF.out (.cells #[.int .i64 2, .int .i64 1] 58))
  replace HcV := Aside0.mk (Kd.V_alloc HcV.out (.cells #[.int .i64 2, .int .i64 1] 58))
  replace HB := Aside0.mk (below_alloc HB.out (.cells #[.int .i64 2, .int .i64 1] 58))
  have HQ := Aside0.mk (blk_at (w := w10) (.cells #[.int .i64 2, .int .i64 1] 58))
  have hs10 : (w10.alloc (.cells #[.int .i64 2, .int .i64 1] 58)).heap.size = w10.heap.size + 1 := by simp
  generalize w10.alloc (.cells #[.int .i64 2, .int .i64 1] 58) = X11 at *
  generalize w10.heap.size = q10 at *
  refine (posthouseref8_SameView.calls k 5 cA ca [(⟨2, 1⟩ : S58)] 5 (some ⟨q10, 0, none⟩) 1 [(⟨2, 1⟩ : S58)] true _ (Kd.F_now (Kd.V_F HcV.out)) (Kd.V_at HcV.out).2.1 (C_seen1 (x := (⟨2, 1⟩ : S58)) HQ.out) (Nat.le_refl _) LV.out).mono ?_
  rintro e w12 ⟨rfl, hb⟩
  replace HE := Aside0.mk (blk_call HE.out hb)
  replace HW := Aside0.mk (blk_call HW.out hb)
  replace HF := Aside0.mk (blk_call HF.out hb)
  replace HQ := Aside0.mk (blk_call HQ.out hb)
  replace HcV := Aside0.mk (Kd.V_below HcV.out hb)
  replace HB := Aside0.mk (below_step HB.out hb)
  clear hb
  go_wp2
  go_ret
  exact ⟨rfl, HB.out⟩
def rMsgB : S29 := ⟨[⟨⟨#[83, 117, 98, 106, 101, 99, 116]⟩, ⟨#[98]⟩⟩], [120, 13, 10]⟩
theorem rthree_is : posthouselaw8_three.f = some (3, 5, 0, [⟨2, 3, 1, 9, rMsgB⟩], [⟨1, 4⟩]) := by kernel_rfl
theorem rsince_is : resync_Since.f 100 3 5 0 [⟨2, 3, 1, 9, rMsgB⟩] [⟨1, 4⟩] 4 = some ([], [1], 0, 0) := by kernel_rfl
theorem rcatch_is : resync_Catch.f 100 3 5 0 [⟨2, 3, 1, 9, rMsgB⟩] [⟨1, 4⟩] 3 [(⟨1, 0⟩ : S58), (⟨2, 0⟩ : S58)] = some (5, [(⟨2, 1⟩ : S58)], false, 0, 0) := by kernel_rfl
theorem rints_is : posthouseref7_Ints.f 100 [1] [1] = some true := by kernel_rfl
theorem rview_is : posthouseref8_SameView.f 100 5 [(⟨2, 1⟩ : S58)] 5 [(⟨2, 1⟩ : S58)] = some true := by kernel_rfl
def posthouselaw8_resyncExample.f (_k : Nat) : Option Bool := some true
theorem posthouselaw8_resyncExample.mono : ∀ k, LeO (posthouselaw8_resyncExample.f k) (posthouselaw8_resyncExample.f (k + 1)) := fun _ => LeO.refl _
theorem posthouselaw8_resyncExample.calls (k : Nat) (r : Bool) (w : World) (h : posthouselaw8_resyncExample.f k = some r) :
    Calls Tryd.prog 11 #[] w fun e w' => e = .returned (.bool r) ∧ Below w.heap.size w w' := by
  cases h
  exact resyncExample_any 100 3 5 0 [⟨2, 3, 1, 9, rMsgB⟩] [⟨1, 4⟩] 0 0 rthree_is rsince_is rcatch_is rints_is rview_is w


end Go.Proofs.YtjmnaipoccpbmaaDoor.P
