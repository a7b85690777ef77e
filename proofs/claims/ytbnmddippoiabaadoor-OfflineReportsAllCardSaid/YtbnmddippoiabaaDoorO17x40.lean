/- Functions of this seat as Lean functions, and that the Go code comes to their answers: written by a program of this session's. -/
import Derived.Test.YtbnmddippoiabaaDoorO17x10
import Derived.Test.YtbnmddippoiabaaDoorO17x18
import Derived.Test.YtbnmddippoiabaaDoorO17x28
import Derived.Test.YtbnmddippoiabaaDoorO17x39
namespace Go.Proofs.YtbnmddippoiabaaDoor.P
open Go.RowKit Go.Proofs.YtbnmddippoiabaaDoorW.PrintWords Go.Proofs.YtbnmddippoiabaaDoorW.PrintLast Go.Proofs.YtbnmddippoiabaaDoorW.PrintMore
attribute [local go_sem] max2_int min2_int max_two min_two max_three min_three max_four min_four   -- for this text's walks alone
set_option linter.unusedVariables false
set_option linter.unusedSimpArgs false

/-! ### posthouselaw8_offlineExample: function 12 -/
theorem addr0 (a : Addr) : a.add 0 = a := by
  obtain ⟨b, o, s⟩ := a
  cases s <;> rfl
theorem CM_block {α : Type} {d : Kd α} {g : Nat} {t : TypeId} {fr : Nat × Nat} {W : World} {cells : Array Value} {xs : List α} (hb : W.heap[g]? = some (.cells cells t fr))
    (hx : ∀ j x, xs[j]? = some x → ∃ c, c.length = d.sz ∧ d.K W x c ∧ ∀ i u, c[i]? = some u → cells[j * d.sz + i]? = some u) (hm : xs.length ≤ 9223372036854775807) :
    d.C W (some ⟨g, 0, none⟩) xs.length xs := by
  refine ⟨rfl, hm, fun _ => ⟨_, rfl, fun j p hj => ?_⟩⟩
  obtain ⟨c, hc, hk, hi⟩ := hx j p hj
  refine ⟨c, hc, hk, fun i u hu => ?_⟩
  rw [add_plain]
  exact (cell_of_row W g _ cells t fr hb).trans (hi i u hu)
theorem CM_q2 {g : Nat} {fr : Nat × Nat} {W : World} (hb : W.heap[g]? = some (.cells #[.int .i64 2, .int .i64 2, .int .i64 0, .bool false, .int .i64 2, .int .i64 0, .int .i64 0, .bool true] 43 fr)) : Kd.C k43 W (some ⟨g, 0, none⟩) 2 [(⟨2, 2, 0, false⟩ : S43), (⟨2, 0, 0, true⟩ : S43)] :=
  CM_block (xs := [(⟨2, 2, 0, false⟩ : S43), (⟨2, 0, 0, true⟩ : S43)]) hb (fun j y hj => by match j, hj with | 0, hj => cases hj; exact ⟨_, rfl, k43_mk W (⟨2, 2, 0, false⟩ : S43), fun i u hu => by match i, hu with | 0, hu => exact hu | 1, hu => exact hu | 2, hu => exact hu | 3, hu => exact hu⟩ | 1, hj => cases hj; exact ⟨_, rfl, k43_mk W (⟨2, 0, 0, true⟩ : S43), fun i u hu => by match i, hu with | 0, hu => exact hu | 1, hu => exact hu | 2, hu => exact hu | 3, hu => exact hu⟩) (by simp)
theorem CM_q3 {g : Nat} {fr : Nat × Nat} {W : World} (hb : W.heap[g]? = some (.cells #[.int .i64 2, .int .i64 2, .int .i64 0, .bool false, .int .i64 2, .int .i64 0, .int .i64 0, .bool true, .int .i64 1, .int .i64 0, .int .i64 0, .bool true] 43 fr)) : Kd.C k43 W (some ⟨g, 0, none⟩) 3 [(⟨2, 2, 0, false⟩ : S43), (⟨2, 0, 0, true⟩ : S43), (⟨1, 0, 0, true⟩ : S43)] :=
  CM_block (xs := [(⟨2, 2, 0, false⟩ : S43), (⟨2, 0, 0, true⟩ : S43), (⟨1, 0, 0, true⟩ : S43)]) hb (fun j y hj => by match j, hj with | 0, hj => cases hj; exact ⟨_, rfl, k43_mk W (⟨2, 2, 0, false⟩ : S43), fun i u hu => by match i, hu with | 0, hu => exact hu | 1, hu => exact hu | 2, hu => exact hu | 3, hu => exact hu⟩ | 1, hj => cases hj; exact ⟨_, rfl, k43_mk W (⟨2, 0, 0, true⟩ : S43), fun i u hu => by match i, hu with | 0, hu => exact hu | 1, hu => exact hu | 2, hu => exact hu | 3, hu => exact hu⟩ | 2, hj => cases hj; exact ⟨_, rfl, k43_mk W (⟨1, 0, 0, true⟩ : S43), fun i u hu => by match i, hu with | 0, hu => exact hu | 1, hu => exact hu | 2, hu => exact hu | 3, hu => exact hu⟩) (by simp)
attribute [local go_sem high] eqFault
set_option maxHeartbeats 4000000 in
set_option maxRecDepth 100000 in
theorem offlineExample_any (k : Nat) (t0 t1 t2 : Int) (t3 : List (S55)) (t4 : List (S75)) (y1 y2 : Int) (lt : posthouselaw8_three.f = some (t0, t1, t2, t3, t4)) (tw : (Lit.int .i64 t1).wf = true) (m0 m1 m2 n0 n1 n2 : Int) (x : S55) (g4 g5 : List (S75)) (l1 : offline_Merge.f k t0 t1 t2 t3 t4 3 [(⟨2, 2, 0, false⟩ : S43), (⟨2, 0, 0, true⟩ : S43), (⟨1, 0, 0, true⟩ : S43)] = some (m0, m1, m2, [x], g4, [⟨2, true, 0⟩, ⟨2, false, 15⟩, ⟨1, false, 6⟩], 0, y1)) (hx : x.f2 = 3) (l2 : offline_Merge.f k t0 t1 t2 t3 t4 5 [(⟨2, 2, 0, false⟩ : S43), (⟨2, 0, 0, true⟩ : S43)] = some (n0, n1, n2, [], g5, [⟨2, true, 0⟩, ⟨2, true, 0⟩], 0, y2)) (w : World) :
    Calls Tryd.prog 12 #[] w fun e w' => e = .returned (.bool true) ∧ Below w.heap.size w w' := by
  have LT := Aside0.mk lt
  have L1 := Aside0.mk l1
  have L2 := Aside0.mk l2
  have HX := Aside0.mk hx
  clear lt l1 l2 hx
  have hu := Tryd.underlying25
  have huq := Tryd.underlying43
  have hur := Tryd.underlying68
  have huf := Tryd.underlying29
  have hus := Tryd.underlying55
  have hfld := fieldFault_0
  have len1 : ([x] : List (S55)).length = 1 := rfl
  have len3 : ([⟨2, true, 0⟩, ⟨2, false, 15⟩, ⟨1, false, 6⟩] : List (S68)).length = 3 := rfl
  have len2 : ([⟨2, true, 0⟩, ⟨2, true, 0⟩] : List (S68)).length = 2 := rfl
  have len0 : ([] : List (S55)).length = 0 := rfl
  have HB := Aside0.mk (Below.refl w.heap.size w)
  go_enter Tryd.func12, Tryd.ntmps12
  go_wp2_with fail
  refine (posthouselaw8_three.calls t0 t1 t2 t3 t4 _ LT.out).mono ?_
  rintro e w1 ⟨v3_, v4_, rfl, hv3_, hv4_, hb⟩
  obtain ⟨tA, ta, rfl⟩ := Kd.V_slice hv3_
  obtain ⟨tB, tb, rfl⟩ := Kd.V_slice hv4_
  have HtV := Aside0.mk hv3_
  have HtW := Aside0.mk hv4_
  clear hv3_ hv4_
  replace HB := Aside0.mk (below_step HB.out hb)
  clear hb
  go_wp2_with fail
  replace HtV := Aside0.mk (Kd.V_alloc HtV.out (.cells #[.int .i64 2, .int .i64 2, .int .i64 0, .bool false, .int .i64 2, .int .i64 0, .int .i64 0, .bool true, .int .i64 1, .int .i64 0, .int .i64 0, .bool true] 43))
  replace HtW := Aside0.mk (Kd.V_alloc HtW.out (.cells #[.int .i64 2, .int .i64 2, .int .i64 0, .bool false, .int .i64 2, .int .i64 0, .int .i64 0, .bool true, .int .i64 1, .int .i64 0, .int .i64 0, .bool true] 43))
  replace HB := Aside0.mk (below_alloc HB.out (.cells #[.int .i64 2, .int .i64 2, .int .i64 0, .bool false, .int .i64 2, .int .i64 0, .int .i64 0, .bool true, .int .i64 1, .int .i64 0, .int .i64 0, .bool true] 43))
  have HQ := Aside0.mk (blk_at (w := w1) (.cells #[.int .i64 2, .int .i64 2, .int .i64 0, .bool false, .int .i64 2, .int .i64 0, .int .i64 0, .bool true, .int .i64 1, .int .i64 0, .int .i64 0, .bool true] 43))
  have hs1 : (w1.alloc (.cells #[.int .i64 2, .int .i64 2, .int .i64 0, .bool false, .int .i64 2, .int .i64 0, .int .i64 0, .bool true, .int .i64 1, .int .i64 0, .int .i64 0, .bool true] 43)).heap.size = w1.heap.size + 1 := by simp
  generalize w1.alloc (.cells #[.int .i64 2, .int .i64 2, .int .i64 0, .bool false, .int .i64 2, .int .i64 0, .int .i64 0, .bool true, .int .i64 1, .int .i64 0, .int .i64 0, .bool true] 43) = X2 at *
  generalize w1.heap.size = q1_ at *
  refine (offline_Merge.calls k t0 t1 t2 tA ta t3 tB tb t4 3 (some ⟨q1_, 0, none⟩) 3 [(⟨2, 2, 0, false⟩ : S43), (⟨2, 0, 0, true⟩ : S43), (⟨1, 0, 0, true⟩ : S43)] m0 m1 m2 [x] g4 [⟨2, true, 0⟩, ⟨2, false, 15⟩, ⟨1, false, 6⟩] 0 y1 _ (Kd.F_now (Kd.V_F HtV.out)) (Kd.V_at HtV.out).2.1 (Kd.F_now (Kd.V_F HtW.out)) (Kd.V_at HtW.out).2.1 (CM_q3 HQ.out) (Nat.le_refl _) (fun _ => tw) (fun q hq => by simp only [List.mem_cons, List.not_mem_nil, or_false] at hq; rcases hq with rfl | rfl | rfl <;> decide) L1.out).mono ?_
  rintro e w3 ⟨v3_, v4_, vs_, rfl, hv3_, hv4_, hvs_, hb⟩
  obtain ⟨mA, ma, rfl⟩ := Kd.V_slice hv3_
  obtain ⟨mB, mb, rfl⟩ := Kd.V_slice hv4_
  obtain ⟨mC, mc, rfl⟩ := Kd.V_slice hvs_
  have HmV := Aside0.mk hv3_
  have HmS := Aside0.mk hvs_
  clear hv3_ hv4_ hvs_
  replace HQ := Aside0.mk (blk_call HQ.out hb)
  replace HtV := Aside0.mk (Kd.V_below HtV.out hb)
  replace HtW := Aside0.mk (Kd.V_below HtW.out hb)
  replace HB := Aside0.mk (below_step HB.out hb)
  clear hb
  clear HQ HtV HtW
  go_wp2_with fail
  replace HmV := Aside0.mk (Kd.V_alloc HmV.out (.cells #[.int .i64 m0, .int .i64 m1, .int .i64 m2, .slice mA 1 ma, .slice mB g4.length mb] 25))
  replace HmS := Aside0.mk (Kd.V_alloc HmS.out (.cells #[.int .i64 m0, .int .i64 m1, .int .i64 m2, .slice mA 1 ma, .slice mB g4.length mb] 25))
  replace HB := Aside0.mk (below_alloc HB.out (.cells #[.int .i64 m0, .int .i64 m1, .int .i64 m2, .slice mA 1 ma, .slice mB g4.length mb] 25))
  have HM := Aside0.mk (blk_at (w := w3) (.cells #[.int .i64 m0, .int .i64 m1, .int .i64 m2, .slice mA 1 ma, .slice mB g4.length mb] 25))
  have hs0_t3_ : (w3.alloc (.cells #[.int .i64 m0, .int .i64 m1, .int .i64 m2, .slice mA 1 ma, .slice mB g4.length mb] 25)).heap.size = w3.heap.size + 1 := by simp
  generalize w3.alloc (.cells #[.int .i64 m0, .int .i64 m1, .int .i64 m2, .slice mA 1 ma, .slice mB g4.length mb] 25) = X4 at *
  generalize w3.heap.size = t3_ at *
  have l1_t31 := blk_lt HM.out
  replace HM := Aside0.mk (blk_later HM.out (.cells #[.int .i64 0, .int .i64 y1] 29))
  replace HmV := Aside0.mk (Kd.V_alloc HmV.out (.cells #[.int .i64 0, .int .i64 y1] 29))
  replace HmS := Aside0.mk (Kd.V_alloc HmS.out (.cells #[.int .i64 0, .int .i64 y1] 29))
  replace HB := Aside0.mk (below_alloc HB.out (.cells #[.int .i64 0, .int .i64 y1] 29))
  have HE := Aside0.mk (blk_at (w := X4) (.cells #[.int .i64 0, .int .i64 y1] 29))
  rw [hs0_t3_] at HE l1_t31
  clear hs0_t3_
  generalize X4.alloc (.cells #[.int .i64 0, .int .i64 y1] 29) = X5 at *
  refine (posthouselaw8_three.calls t0 t1 t2 t3 t4 _ LT.out).mono ?_
  rintro e w6 ⟨v3_, v4_, rfl, hv3_, hv4_, hb⟩
  obtain ⟨tA, ta, rfl⟩ := Kd.V_slice hv3_
  obtain ⟨tB, tb, rfl⟩ := Kd.V_slice hv4_
  have HtV := Aside0.mk hv3_
  have HtW := Aside0.mk hv4_
  clear hv3_ hv4_
  replace HM := Aside0.mk (blk_call HM.out hb)
  replace HE := Aside0.mk (blk_call HE.out hb)
  replace HmV := Aside0.mk (Kd.V_below HmV.out hb)
  replace HmS := Aside0.mk (Kd.V_below HmS.out hb)
  replace HB := Aside0.mk (below_step HB.out hb)
  clear hb
  go_wp2_with fail
  have l2_q6 := blk_lt HM.out
  have l3_q6 := blk_lt HE.out
  replace HM := Aside0.mk (blk_later HM.out (.cells #[.int .i64 2, .int .i64 2, .int .i64 0, .bool false, .int .i64 2, .int .i64 0, .int .i64 0, .bool true] 43))
  replace HE := Aside0.mk (blk_later HE.out (.cells #[.int .i64 2, .int .i64 2, .int .i64 0, .bool false, .int .i64 2, .int .i64 0, .int .i64 0, .bool true] 43))
  replace HmV := Aside0.mk (Kd.V_alloc HmV.out (.cells #[.int .i64 2, .int .i64 2, .int .i64 0, .bool false, .int .i64 2, .int .i64 0, .int .i64 0, .bool true] 43))
  replace HmS := Aside0.mk (Kd.V_alloc HmS.out (.cells #[.int .i64 2, .int .i64 2, .int .i64 0, .bool false, .int .i64 2, .int .i64 0, .int .i64 0, .bool true] 43))
  replace HtV := Aside0.mk (Kd.V_alloc HtV.out (.cells #[.int .i64 2, .int .i64 2, .int .i64 0, .bool false, .int .i64 2, .int .i64 0, .int .i64 0, .bool true] 43))
  replace HtW := Aside0.mk (Kd.V_alloc HtW.out (.cells #[.int .i64 2, .int .i64 2, .int .i64 0, .bool false, .int .i64 2, .int .i64 0, .int .i64 0, .bool true] 43))
  replace HB := Aside0.mk (below_alloc HB.out (.cells #[.int .i64 2, .int .i64 2, .int .i64 0, .bool false, .int .i64 2, .int .i64 0, .int .i64 0, .bool true] 43))
  have HQ := Aside0.mk (blk_at (w := w6) (.cells #[.int .i64 2, .int .i64 2, .int .i64 0, .bool false, .int .i64 2, .int .i64 0, .int .i64 0, .bool true] 43))
  have hs6 : (w6.alloc (.cells #[.int .i64 2, .int .i64 2, .int .i64 0, .bool false, .int .i64 2, .int .i64 0, .int .i64 0, .bool true] 43)).heap.size = w6.heap.size + 1 := by simp
  generalize w6.alloc (.cells #[.int .i64 2, .int .i64 2, .int .i64 0, .bool false, .int .i64 2, .int .i64 0, .int .i64 0, .bool true] 43) = X7 at *
  generalize w6.heap.size = q6_ at *
  refine (offline_Merge.calls k t0 t1 t2 tA ta t3 tB tb t4 5 (some ⟨q6_, 0, none⟩) 2 [(⟨2, 2, 0, false⟩ : S43), (⟨2, 0, 0, true⟩ : S43)] n0 n1 n2 [] g5 [⟨2, true, 0⟩, ⟨2, true, 0⟩] 0 y2 _ (Kd.F_now (Kd.V_F HtV.out)) (Kd.V_at HtV.out).2.1 (Kd.F_now (Kd.V_F HtW.out)) (Kd.V_at HtW.out).2.1 (CM_q2 HQ.out) (Nat.le_refl _) (fun _ => tw) (fun q hq => by simp only [List.mem_cons, List.not_mem_nil, or_false] at hq; rcases hq with rfl | rfl <;> decide) L2.out).mono ?_
  rintro e w8 ⟨v3_, v4_, vs_, rfl, hv3_, hv4_, hvs_, hb⟩
  obtain ⟨nA, na, rfl⟩ := Kd.V_slice hv3_
  obtain ⟨nB, nb, rfl⟩ := Kd.V_slice hv4_
  obtain ⟨nC, nc, rfl⟩ := Kd.V_slice hvs_
  have HnV := Aside0.mk hv3_
  have HnS := Aside0.mk hvs_
  clear hv3_ hv4_ hvs_
  replace HM := Aside0.mk (blk_call HM.out hb)
  replace HE := Aside0.mk (blk_call HE.out hb)
  replace HQ := Aside0.mk (blk_call HQ.out hb)
  replace HmV := Aside0.mk (Kd.V_below HmV.out hb)
  replace HmS := Aside0.mk (Kd.V_below HmS.out hb)
  replace HtV := Aside0.mk (Kd.V_below HtV.out hb)
  replace HtW := Aside0.mk (Kd.V_below HtW.out hb)
  replace HB := Aside0.mk (below_step HB.out hb)
  clear hb
  clear HQ HtV HtW
  obtain ⟨ad0, _, _, _, _, h0_, -, -, e0, -⟩ := at_T55 (Kd.F_now (Kd.V_F HmV.out)) 0 (by omega) (by omega)
  rw [show rd_T55 [x] 0 = x from rfl, HX.out] at e0
  subst h0_
  replace e0 : w8.cell? ⟨(ad0.add 0).block, (ad0.add 0).off + 2, none⟩ = some (.int .i64 3) := e0
  rw [addr0] at e0
  have c0_ := cell2 e0
  obtain ⟨adHmS0, h0_, -, sHmS0, rHmS0⟩ := at_T68 (Kd.F_now (Kd.V_F HmS.out)) 0 (by simp) (by simp)
  subst h0_
  replace sHmS0 : w8.cell? ⟨adHmS0.block, adHmS0.off + 1, none⟩ = some (.bool true) := sHmS0
  replace rHmS0 : w8.cell? ⟨adHmS0.block, adHmS0.off + 2, none⟩ = some (.int .i64 0) := rHmS0
  have csHmS0 := cell2 sHmS0
  have crHmS0 := cell2 rHmS0
  obtain ⟨adHmS1, h0_, -, sHmS1, rHmS1⟩ := at_T68 (Kd.F_now (Kd.V_F HmS.out)) 1 (by simp) (by simp)
  obtain rfl : adHmS0 = adHmS1 := Option.some.inj h0_
  replace sHmS1 : w8.cell? ⟨adHmS0.block, adHmS0.off + 3 + 1, none⟩ = some (.bool false) := sHmS1
  replace rHmS1 : w8.cell? ⟨adHmS0.block, adHmS0.off + 3 + 2, none⟩ = some (.int .i64 15) := rHmS1
  have csHmS1 := cell2 sHmS1
  have crHmS1 := cell2 rHmS1
  obtain ⟨adHmS2, h0_, -, sHmS2, rHmS2⟩ := at_T68 (Kd.F_now (Kd.V_F HmS.out)) 2 (by simp) (by simp)
  obtain rfl : adHmS0 = adHmS2 := Option.some.inj h0_
  replace sHmS2 : w8.cell? ⟨adHmS0.block, adHmS0.off + 6 + 1, none⟩ = some (.bool false) := sHmS2
  replace rHmS2 : w8.cell? ⟨adHmS0.block, adHmS0.off + 6 + 2, none⟩ = some (.int .i64 6) := rHmS2
  have csHmS2 := cell2 sHmS2
  have crHmS2 := cell2 rHmS2
  obtain ⟨adHnS1, h0_, -, sHnS1, rHnS1⟩ := at_T68 (Kd.F_now (Kd.V_F HnS.out)) 1 (by simp) (by simp)
  subst h0_
  replace sHnS1 : w8.cell? ⟨adHnS1.block, adHnS1.off + 3 + 1, none⟩ = some (.bool true) := sHnS1
  replace rHnS1 : w8.cell? ⟨adHnS1.block, adHnS1.off + 3 + 2, none⟩ = some (.int .i64 0) := rHnS1
  have csHnS1 := cell2 sHnS1
  have crHnS1 := cell2 rHnS1
  have kHM := bc0 HM.out
  have mHM := bc1 HM.out
  have nHM := bc2 HM.out
  have fHM := bf0 HM.out
  have yHM := blk_lt HM.out
  have kHE := bc0 HE.out
  have mHE := bc1 HE.out
  have nHE := bc2 HE.out
  have fHE := bf0 HE.out
  have yHE := blk_lt HE.out
  go_wp2
  go_ret
  exact ⟨rfl, below_alloc (below_alloc HB.out _) _⟩
def oMsgB : S53 := ⟨[⟨⟨#[83, 117, 98, 106, 101, 99, 116]⟩, ⟨#[98]⟩⟩], [120, 13, 10]⟩
theorem othree_is : posthouselaw8_three.f = some (3, 5, 0, [⟨2, 3, 1, 9, oMsgB⟩], [⟨1, 4⟩]) := by kernel_rfl
theorem omerge_is : offline_Merge.f 100 3 5 0 [⟨2, 3, 1, 9, oMsgB⟩] [⟨1, 4⟩] 3 [(⟨2, 2, 0, false⟩ : S43), (⟨2, 0, 0, true⟩ : S43), (⟨1, 0, 0, true⟩ : S43)] = some (3, 6, 0, [⟨2, 5, 3, 9, oMsgB⟩], [⟨1, 4⟩], [⟨2, true, 0⟩, ⟨2, false, 15⟩, ⟨1, false, 6⟩], 0, 0) := by kernel_rfl
theorem omerge2_is : offline_Merge.f 100 3 5 0 [⟨2, 3, 1, 9, oMsgB⟩] [⟨1, 4⟩] 5 [(⟨2, 2, 0, false⟩ : S43), (⟨2, 0, 0, true⟩ : S43)] = some (3, 7, 0, [], [⟨1, 4⟩, ⟨2, 6⟩], [⟨2, true, 0⟩, ⟨2, true, 0⟩], 0, 0) := by kernel_rfl
def posthouselaw8_offlineExample.f (_k : Nat) : Option Bool := some true
theorem posthouselaw8_offlineExample.mono : ∀ k, LeO (posthouselaw8_offlineExample.f k) (posthouselaw8_offlineExample.f (k + 1)) := fun _ => LeO.refl _
theorem posthouselaw8_offlineExample.calls (k : Nat) (r : Bool) (w : World) (h : posthouselaw8_offlineExample.f k = some r) :
    Calls Tryd.prog 12 #[] w fun e w' => e = .returned (.bool r) ∧ Below w.heap.size w w' := by
  cases h
  exact offlineExample_any 100 3 5 0 [⟨2, 3, 1, 9, oMsgB⟩] [⟨1, 4⟩] 0 0 othree_is (by decide) 3 6 0 3 7 0 ⟨2, 5, 3, 9, oMsgB⟩ _ _ omerge_is rfl omerge2_is w


end Go.Proofs.YtbnmddippoiabaaDoor.P
