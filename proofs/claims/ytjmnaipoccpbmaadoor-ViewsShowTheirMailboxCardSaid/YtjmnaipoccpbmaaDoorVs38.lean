/- Functions of this seat as Lean functions, and that the Go code comes to their answers: written by a program of this session's. -/
import Derived.Test.YtjmnaipoccpbmaaDoorVs29
import Derived.Test.YtjmnaipoccpbmaaDoorVs10
import Derived.Test.YtjmnaipoccpbmaaDoorVs19
import Derived.Test.YtjmnaipoccpbmaaDoorVs32
import Derived.Test.YtjmnaipoccpbmaaDoorVs30
import Derived.Test.YtjmnaipoccpbmaaDoorVs35
import Derived.Test.YtjmnaipoccpbmaaDoorVs36
import Derived.Test.YtjmnaipoccpbmaaDoorVs28
import Derived.Test.YtjmnaipoccpbmaaDoorVs31
import Derived.Test.YtjmnaipoccpbmaaDoorVs37
namespace Go.Proofs.YtjmnaipoccpbmaaDoor.P
open Go.RowKit Go.Proofs.YtjmnaipoccpbmaaDoorW.PrintWords Go.Proofs.YtjmnaipoccpbmaaDoorW.PrintLast Go.Proofs.YtjmnaipoccpbmaaDoorW.PrintMore
attribute [local go_sem] max2_int min2_int max_two min_two max_three min_three max_four min_four   -- for this text's walks alone
set_option linter.unusedVariables false
set_option linter.unusedSimpArgs false

/-! ### posthouselaw8_viewsExample: function 6 -/
theorem CV_block {α : Type} {d : Kd α} {g : Nat} {t : TypeId} {fr : Nat × Nat} {W : World} {cells : Array Value} {xs : List α} (hb : W.heap[g]? = some (.cells cells t fr))
    (hx : ∀ j x, xs[j]? = some x → ∃ c, c.length = d.sz ∧ d.K W x c ∧ ∀ i u, c[i]? = some u → cells[j * d.sz + i]? = some u) (hm : xs.length ≤ 9223372036854775807) :
    d.C W (some ⟨g, 0, none⟩) xs.length xs := by
  refine ⟨rfl, hm, fun _ => ⟨_, rfl, fun j p hj => ?_⟩⟩
  obtain ⟨c, hc, hk, hi⟩ := hx j p hj
  refine ⟨c, hc, hk, fun i u hu => ?_⟩
  rw [add_plain]
  exact (cell_of_row W g _ cells t fr hb).trans (hi i u hu)
theorem CV_seen1 {g : Nat} {fr : Nat × Nat} {W : World} {x : S58} (hb : W.heap[g]? = some (.cells #[.int .i64 x.f0, .int .i64 x.f1] 58 fr)) : Kd.C k58 W (some ⟨g, 0, none⟩) 1 [x] :=
  CV_block (xs := [x]) hb (fun j y hj => by match j, hj with | 0, hj => cases hj; exact ⟨_, rfl, k58_mk W x, fun i u hu => by match i, hu with | 0, hu => exact hu | 1, hu => exact hu⟩) (by simp)
theorem CV_seen2 {g : Nat} {fr : Nat × Nat} {W : World} {x y : S58} (hb : W.heap[g]? = some (.cells #[.int .i64 x.f0, .int .i64 x.f1, .int .i64 y.f0, .int .i64 y.f1] 58 fr)) : Kd.C k58 W (some ⟨g, 0, none⟩) 2 [x, y] :=
  CV_block (xs := [x, y]) hb (fun j z hj => by match j, hj with | 0, hj => cases hj; exact ⟨_, rfl, k58_mk W x, fun i u hu => by match i, hu with | 0, hu => exact hu | 1, hu => exact hu⟩ | 1, hj => cases hj; exact ⟨_, rfl, k58_mk W y, fun i u hu => by match i, hu with | 0, hu => exact hu | 1, hu => exact hu⟩) (by simp)
theorem CV_num1 {g : Nat} {fr : Nat × Nat} {W : World} {x : Int} (hb : W.heap[g]? = some (.cells #[.int .i64 x] 3 fr)) : Kd.C (Kd.int .i64) W (some ⟨g, 0, none⟩) 1 [x] :=
  CV_block (xs := [x]) hb (fun j y hj => by match j, hj with | 0, hj => cases hj; exact ⟨[.int .i64 x], rfl, rfl, fun i u hu => by match i, hu with | 0, hu => exact hu⟩) (by simp)
attribute [local go_sem high] eqFault
set_option maxHeartbeats 4000000 in
set_option maxRecDepth 100000 in
theorem viewsExample_any (k : Nat) (t0 t1 t2 : Int) (t3 : List (S78)) (t4 : List (S73)) (x1 x2 x3 x4 : Int) (lt : posthouselaw8_three.f = some (t0, t1, t2, t3, t4)) (lo : views_Of.f k t0 t1 t2 t3 t4 = some (5, [(⟨2, 1⟩ : S58)], 0, x1)) (lu : views_Update.f k 5 [(⟨2, 1⟩ : S58)] [(⟨7, 2⟩ : S58), (⟨8, 0⟩ : S58)] [8] 9 = some (9, [(⟨2, 1⟩ : S58), (⟨7, 2⟩ : S58)], 0, x2)) (ls : views_Same.f k 5 [(⟨2, 1⟩ : S58)] t0 t1 t2 t3 t4 = some (true, 0, x3)) (l1 : posthouseref8_SameSeen.f k [(⟨2, 1⟩ : S58)] [(⟨2, 1⟩ : S58)] = some true) (l2 : posthouseref8_SameSeen.f k [(⟨2, 1⟩ : S58), (⟨7, 2⟩ : S58)] [(⟨2, 1⟩ : S58), (⟨7, 2⟩ : S58)] = some true) (lv : views_Validate.f 5 [(⟨2, 1⟩ : S58)] = some (0, x4)) (w : World) :
    Calls Tryd.prog 6 #[] w fun e w' => e = .returned (.bool true) ∧ Below w.heap.size w w' := by
  have LT := Aside0.mk lt
  have LO := Aside0.mk lo
  have LU := Aside0.mk lu
  have LS := Aside0.mk ls
  have L1 := Aside0.mk l1
  have L2 := Aside0.mk l2
  have LV := Aside0.mk lv
  clear lt lo lu ls l1 l2 lv
  have hu := Tryd.underlying25
  have hu2 := Tryd.underlying33
  have hu3 := Tryd.underlying58
  have hfld := fieldFault_0
  have n1 : ([8] : List Int).length = 1 := rfl
  have n2 : ([(⟨2, 1⟩ : S58)] : List (S58)).length = 1 := rfl
  have n3 : ([(⟨2, 1⟩ : S58), (⟨7, 2⟩ : S58)] : List (S58)).length = 2 := rfl
  have HB := Aside0.mk (Below.refl w.heap.size w)
  go_enter Tryd.func6, Tryd.ntmps6
  go_wp2_with fail
  refine (posthouselaw8_three.calls t0 t1 t2 t3 t4 _ LT.out).mono ?_
  rintro e w1 ⟨v3_, v4_, rfl, hv3_, hv4_, hb⟩
  obtain ⟨tA, ta, rfl⟩ := Kd.V_slice hv3_
  obtain ⟨tB, tb, rfl⟩ := Kd.V_slice hv4_
  have HtV := Aside0.mk hv3_
  have HtW := Aside0.mk hv4_
  clear hv3_ hv4_
  replace HB := Aside0.mk (below_step HB.out hb)
  clear hb
  go_wp2_with fail
  refine (views_Of.calls k t0 t1 t2 tA ta t3 tB tb t4 5 [(⟨2, 1⟩ : S58)] 0 x1 _ (Kd.F_now (Kd.V_F HtV.out)) (Kd.V_at HtV.out).2.1 (Kd.F_now (Kd.V_F HtW.out)) (Kd.V_at HtW.out).2.1 LO.out).mono ?_
  rintro e w2 ⟨v1_, rfl, hv1, hb⟩
  obtain ⟨vA, va, rfl⟩ := Kd.R_slice hv1
  have HvV := Aside0.mk (Kd.N_V (base' := 0) (seen_ok (ok' := fun k_ => w1.heap.size ≤ k_) (Kd.R_N hv1) (Kd.N_base (Kd.R_N hv1))))
  clear hv1
  replace HtV := Aside0.mk (Kd.V_below HtV.out hb)
  replace HtW := Aside0.mk (Kd.V_below HtW.out hb)
  replace HB := Aside0.mk (below_step HB.out hb)
  clear hb
  clear HtV HtW
  go_wp2_with fail
  replace HvV := Aside0.mk (Kd.V_alloc HvV.out (.cells #[.int .i64 5, (.slice vA 1 va)] 33))
  replace HB := Aside0.mk (below_alloc HB.out (.cells #[.int .i64 5, (.slice vA 1 va)] 33))
  have HV := Aside0.mk (blk_at (w := w2) (.cells #[.int .i64 5, (.slice vA 1 va)] 33))
  have hs0_t2_ : (w2.alloc (.cells #[.int .i64 5, (.slice vA 1 va)] 33)).heap.size = w2.heap.size + 1 := by simp
  generalize w2.alloc (.cells #[.int .i64 5, (.slice vA 1 va)] 33) = X3 at *
  generalize w2.heap.size = t2_ at *
  have hs1_t2_ : (X3.alloc (.cells #[.int .i64 0, .int .i64 x1] 35)).heap.size = t2_ + 1 + 1 := by rw [World.size_alloc, hs0_t2_]
  have l1_t21 := blk_lt HV.out
  replace HV := Aside0.mk (blk_later HV.out (.cells #[.int .i64 0, .int .i64 x1] 35))
  replace HvV := Aside0.mk (Kd.V_alloc HvV.out (.cells #[.int .i64 0, .int .i64 x1] 35))
  replace HB := Aside0.mk (below_alloc HB.out (.cells #[.int .i64 0, .int .i64 x1] 35))
  have HE := Aside0.mk (blk_at (w := X3) (.cells #[.int .i64 0, .int .i64 x1] 35))
  rw [hs0_t2_] at HE l1_t21
  clear hs0_t2_
  generalize X3.alloc (.cells #[.int .i64 0, .int .i64 x1] 35) = X4 at *
  have hs2_t2_ : (X4.alloc (.cells #[.int .i64 7, .int .i64 2, .int .i64 8, .int .i64 0] 58)).heap.size = t2_ + 1 + 1 + 1 := by rw [World.size_alloc, hs1_t2_]
  have l2_t211 := blk_lt HV.out
  have l3_t211 := blk_lt HE.out
  replace HV := Aside0.mk (blk_later HV.out (.cells #[.int .i64 7, .int .i64 2, .int .i64 8, .int .i64 0] 58))
  replace HE := Aside0.mk (blk_later HE.out (.cells #[.int .i64 7, .int .i64 2, .int .i64 8, .int .i64 0] 58))
  replace HvV := Aside0.mk (Kd.V_alloc HvV.out (.cells #[.int .i64 7, .int .i64 2, .int .i64 8, .int .i64 0] 58))
  replace HB := Aside0.mk (below_alloc HB.out (.cells #[.int .i64 7, .int .i64 2, .int .i64 8, .int .i64 0] 58))
  have HQ := Aside0.mk (blk_at (w := X4) (.cells #[.int .i64 7, .int .i64 2, .int .i64 8, .int .i64 0] 58))
  rw [hs1_t2_] at HQ l2_t211 l3_t211
  clear hs1_t2_
  generalize X4.alloc (.cells #[.int .i64 7, .int .i64 2, .int .i64 8, .int .i64 0] 58) = X5 at *
  have l4_t2111 := blk_lt HV.out
  have l5_t2111 := blk_lt HE.out
  have l6_t2111 := blk_lt HQ.out
  replace HV := Aside0.mk (blk_later HV.out (.cells #[.int .i64 8] 3))
  replace HE := Aside0.mk (blk_later HE.out (.cells #[.int .i64 8] 3))
  replace HQ := Aside0.mk (blk_later HQ.out (.cells #[.int .i64 8] 3))
  replace HvV := Aside0.mk (Kd.V_alloc HvV.out (.cells #[.int .i64 8] 3))
  replace HB := Aside0.mk (below_alloc HB.out (.cells #[.int .i64 8] 3))
  have HN := Aside0.mk (blk_at (w := X5) (.cells #[.int .i64 8] 3))
  rw [hs2_t2_] at HN l4_t2111 l5_t2111 l6_t2111
  clear hs2_t2_
  generalize X5.alloc (.cells #[.int .i64 8] 3) = X6 at *
  refine (views_Update.calls k 5 vA va [(⟨2, 1⟩ : S58)] (some ⟨t2_ + 1 + 1, 0, none⟩) 2 [(⟨7, 2⟩ : S58), (⟨8, 0⟩ : S58)] (some ⟨t2_ + 1 + 1 + 1, 0, none⟩) 1 [8] 9 9 [(⟨2, 1⟩ : S58), (⟨7, 2⟩ : S58)] 0 x2 _ (Kd.F_now (Kd.V_F HvV.out)) (Kd.V_at HvV.out).2.1 (CV_seen2 (x := (⟨7, 2⟩ : S58)) (y := (⟨8, 0⟩ : S58)) HQ.out) (Nat.le_refl _) (CV_num1 HN.out) (Nat.le_refl _) LU.out).mono ?_
  rintro e w7 ⟨v1_, rfl, hv1, hb⟩
  obtain ⟨uA, ua, rfl⟩ := Kd.R_slice hv1
  have HuV := Aside0.mk (Kd.N_V (base' := 0) (seen_ok (ok' := fun k_ => X6.heap.size ≤ k_) (Kd.R_N hv1) (Kd.N_base (Kd.R_N hv1))))
  clear hv1
  replace HV := Aside0.mk (blk_call HV.out hb)
  replace HE := Aside0.mk (blk_call HE.out hb)
  replace HQ := Aside0.mk (blk_call HQ.out hb)
  replace HN := Aside0.mk (blk_call HN.out hb)
  replace HvV := Aside0.mk (Kd.V_below HvV.out hb)
  replace HB := Aside0.mk (below_step HB.out hb)
  clear hb
  clear HQ HN
  go_wp2_with fail
  have l7_t7 := blk_lt HV.out
  have l8_t7 := blk_lt HE.out
  replace HV := Aside0.mk (blk_later HV.out (.cells #[.int .i64 9, (.slice uA 2 ua)] 33))
  replace HE := Aside0.mk (blk_later HE.out (.cells #[.int .i64 9, (.slice uA 2 ua)] 33))
  replace HvV := Aside0.mk (Kd.V_alloc HvV.out (.cells #[.int .i64 9, (.slice uA 2 ua)] 33))
  replace HuV := Aside0.mk (Kd.V_alloc HuV.out (.cells #[.int .i64 9, (.slice uA 2 ua)] 33))
  replace HB := Aside0.mk (below_alloc HB.out (.cells #[.int .i64 9, (.slice uA 2 ua)] 33))
  have HU := Aside0.mk (blk_at (w := w7) (.cells #[.int .i64 9, (.slice uA 2 ua)] 33))
  have hs0_t7_ : (w7.alloc (.cells #[.int .i64 9, (.slice uA 2 ua)] 33)).heap.size = w7.heap.size + 1 := by simp
  generalize w7.alloc (.cells #[.int .i64 9, (.slice uA 2 ua)] 33) = X8 at *
  generalize w7.heap.size = t7_ at *
  have l9_t71 := blk_lt HV.out
  have l10_t71 := blk_lt HE.out
  have l11_t71 := blk_lt HU.out
  replace HV := Aside0.mk (blk_later HV.out (.cells #[.int .i64 0, .int .i64 x2] 35))
  replace HE := Aside0.mk (blk_later HE.out (.cells #[.int .i64 0, .int .i64 x2] 35))
  replace HU := Aside0.mk (blk_later HU.out (.cells #[.int .i64 0, .int .i64 x2] 35))
  replace HvV := Aside0.mk (Kd.V_alloc HvV.out (.cells #[.int .i64 0, .int .i64 x2] 35))
  replace HuV := Aside0.mk (Kd.V_alloc HuV.out (.cells #[.int .i64 0, .int .i64 x2] 35))
  replace HB := Aside0.mk (below_alloc HB.out (.cells #[.int .i64 0, .int .i64 x2] 35))
  have HF := Aside0.mk (blk_at (w := X8) (.cells #[.int .i64 0, .int .i64 x2] 35))
  rw [hs0_t7_] at HF l9_t71 l10_t71 l11_t71
  clear hs0_t7_
  generalize X8.alloc (.cells #[.int .i64 0, .int .i64 x2] 35) = X9 at *
  refine region_till 8 (fun _ => True) (fun w' : World => w'.cell? ⟨t2_, 0, none⟩ = some (.int .i64 5) ∧ w'.cell? ⟨t2_, 1, none⟩ = some (.slice vA 1 va)) (by kernel_rfl) ⟨trivial, ⟨bc0 (blk_drew HV.out) 0, bc0 (blk_drew HV.out) 1⟩⟩ (fun hTU => ?_)
  replace HV := Aside0.mk (blk_drew HV.out)
  replace HE := Aside0.mk (blk_drew HE.out)
  replace HU := Aside0.mk (blk_drew HU.out)
  replace HF := Aside0.mk (blk_drew HF.out)
  replace HvV := Aside0.mk (Kd.V_drew HvV.out)
  replace HuV := Aside0.mk (Kd.V_drew HuV.out)
  replace HB := Aside0.mk (below_drew1 HB.out)
  generalize X9.drew = V0 at *
  refine till_takeD (i := 0) (v := ?_) (some 22) rfl rfl (by kernel_rfl) (by kernel_rfl) (by kernel_rfl) (by kernel_rfl) (fun _ _ _ h => h) (Or.inl ⟨by rfl, ?_⟩) (by assumption) ?_
  rotate_left
  · (intro w_ hS_; (try dsimp only at hS_); go_simp; try with_reducible rfl)
  try simp only [Act.put, List.setIfInBounds_toArray, List.set_cons_zero, List.set_cons_succ]
  refine till_ready (rs := [1, 6]) (by kernel_rfl) (by simp) ?_
  refine each_cons rfl (fun K hK => ?_) (each_cons rfl (fun K hK => ?_) (each_nil))
  · skip
    go_simp
    go_at_call 15
    refine (posthouselaw8_three.calls t0 t1 t2 t3 t4 _ LT.out).mono ?_
    rintro e V0_1 ⟨v3_, v4_, rfl, hv3_, hv4_, hb⟩
    obtain ⟨tA, ta, rfl⟩ := Kd.V_slice hv3_
    obtain ⟨tB, tb, rfl⟩ := Kd.V_slice hv4_
    have HtV := Aside0.mk hv3_
    have HtW := Aside0.mk hv4_
    clear hv3_ hv4_
    replace HV := Aside0.mk (blk_call HV.out hb)
    replace HE := Aside0.mk (blk_call HE.out hb)
    replace HU := Aside0.mk (blk_call HU.out hb)
    replace HF := Aside0.mk (blk_call HF.out hb)
    replace HvV := Aside0.mk (Kd.V_below HvV.out hb)
    replace HuV := Aside0.mk (Kd.V_below HuV.out hb)
    replace HB := Aside0.mk (below_step HB.out hb)
    clear hb
    refine hK.out _ _ trivial (fun _ _ => ⟨bc0 HV.out 0, bc0 HV.out 1⟩) (fun hTV => ?_)
    clear hK K hTU
    have hTU := hTV (by kernel_rfl) (by decide)
    clear hTV
    try simp only [Act.put, List.setIfInBounds_toArray, List.set_cons_zero, List.set_cons_succ]
    refine till_ready (rs := [2, 6]) (by kernel_rfl) (by simp) ?_
    refine each_cons rfl (fun K hK => ?_) (each_cons rfl (fun K hK => ?_) (each_nil))
    · skip
      go_simp
      go_at_call 8
      refine (views_Same.calls k 5 vA va [(⟨2, 1⟩ : S58)] t0 t1 t2 tA ta t3 tB tb t4 true 0 x3 _ (Kd.F_now (Kd.V_F HvV.out)) (Kd.V_at HvV.out).2.1 (Kd.F_now (Kd.V_F HtV.out)) (Kd.V_at HtV.out).2.1 (Kd.F_now (Kd.V_F HtW.out)) (Kd.V_at HtW.out).2.1 LS.out).mono ?_
      rintro e V0_1_2 ⟨rfl, hb⟩
      replace HV := Aside0.mk (blk_call HV.out hb)
      replace HE := Aside0.mk (blk_call HE.out hb)
      replace HU := Aside0.mk (blk_call HU.out hb)
      replace HF := Aside0.mk (blk_call HF.out hb)
      replace HvV := Aside0.mk (Kd.V_below HvV.out hb)
      replace HuV := Aside0.mk (Kd.V_below HuV.out hb)
      replace HtV := Aside0.mk (Kd.V_below HtV.out hb)
      replace HtW := Aside0.mk (Kd.V_below HtW.out hb)
      replace HB := Aside0.mk (below_step HB.out hb)
      clear hb
      refine hK.out _ _ trivial (fun _ _ => ⟨bc0 HV.out 0, bc0 HV.out 1⟩) (fun hTV => ?_)
      clear hK K hTU
      have hTU := hTV (by kernel_rfl) (by decide)
      clear hTV
      try simp only [Act.put, List.setIfInBounds_toArray, List.set_cons_zero, List.set_cons_succ]
      refine till_freeD (i := 3) (v := ?_) (some 21) rfl rfl (by decide) (by kernel_rfl) (by kernel_rfl) (by kernel_rfl) (fun _ _ _ h => h) (Or.inl ⟨by rfl, ?_⟩) ⟨hTU.1, fun _ => hTU.2⟩ ?_
      rotate_left
      · (intro w_ _; go_simp; try with_reducible rfl)
      try simp only [Act.put, List.setIfInBounds_toArray, List.set_cons_zero, List.set_cons_succ]
      refine till_freeD (i := 4) (v := ?_) (some 25) rfl rfl (by decide) (by kernel_rfl) (by kernel_rfl) (by kernel_rfl) (fun _ _ _ h => h) (Or.inl ⟨by rfl, ?_⟩) ⟨hTU.1, fun _ => hTU.2⟩ ?_
      rotate_left
      · (intro w_ _; go_simp; try with_reducible rfl)
      try simp only [Act.put, List.setIfInBounds_toArray, List.set_cons_zero, List.set_cons_succ]
      refine till_freeD (i := 5) (v := ?_) (some 26) rfl rfl (by decide) (by kernel_rfl) (by kernel_rfl) (by kernel_rfl) (fun _ _ _ h => h) (Or.inl ⟨by rfl, ?_⟩) ⟨hTU.1, fun _ => hTU.2⟩ ?_
      rotate_left
      · (intro w_ _; go_simp; try with_reducible rfl)
      try simp only [Act.put, List.setIfInBounds_toArray, List.set_cons_zero, List.set_cons_succ]
      refine till_one (i := 6) (by kernel_rfl) rfl (fun K hK => ?_)
      go_simp
      have hd6 := below_size HB.out
      replace HtV := Aside0.mk (Kd.V_alloc HtV.out (.cells #[.int .i64 0, .int .i64 0] 35))
      replace HtW := Aside0.mk (Kd.V_alloc HtW.out (.cells #[.int .i64 0, .int .i64 0] 35))
      have l12_g6 := blk_lt HV.out
      have l13_g6 := blk_lt HE.out
      have l14_g6 := blk_lt HU.out
      have l15_g6 := blk_lt HF.out
      replace HvV := Aside0.mk (Kd.V_mono (ok' := fun k_ => w1.heap.size ≤ k_ ∧ k_ ≠ V0_1_2.heap.size) (Kd.V_elderB HvV.out V0_1_2.heap.size (Nat.le_refl _)) (fun k_ hk_ => by have h1_ := hk_.1; have h2_ := hk_.2; omega))
      replace HuV := Aside0.mk (Kd.V_mono (ok' := fun k_ => X6.heap.size ≤ k_ ∧ k_ ≠ V0_1_2.heap.size) (Kd.V_elderB HuV.out V0_1_2.heap.size (Nat.le_refl _)) (fun k_ hk_ => by have h1_ := hk_.1; have h2_ := hk_.2; omega))
      replace HV := Aside0.mk (blk_later HV.out (.cells #[.int .i64 0, .int .i64 0] 35))
      replace HE := Aside0.mk (blk_later HE.out (.cells #[.int .i64 0, .int .i64 0] 35))
      replace HU := Aside0.mk (blk_later HU.out (.cells #[.int .i64 0, .int .i64 0] 35))
      replace HF := Aside0.mk (blk_later HF.out (.cells #[.int .i64 0, .int .i64 0] 35))
      replace HvV := Aside0.mk (Kd.V_alloc HvV.out (.cells #[.int .i64 0, .int .i64 0] 35))
      replace HuV := Aside0.mk (Kd.V_alloc HuV.out (.cells #[.int .i64 0, .int .i64 0] 35))
      replace HB := Aside0.mk (below_alloc HB.out (.cells #[.int .i64 0, .int .i64 0] 35))
      have HG := Aside0.mk (blk_at (w := V0_1_2) (.cells #[.int .i64 0, .int .i64 0] 35))
      have hs6 : (V0_1_2.alloc (.cells #[.int .i64 0, .int .i64 0] 35)).heap.size = V0_1_2.heap.size + 1 := by simp
      generalize V0_1_2.alloc (.cells #[.int .i64 0, .int .i64 0] 35) = V0_1_2_6 at *
      generalize V0_1_2.heap.size = g6 at *
      refine hK.out _ _ trivial (fun _ _ => ⟨bc0 HV.out 0, bc0 HV.out 1⟩) (fun hTV => ?_)
      clear hK K hTU
      have hTU := hTV (by kernel_rfl) (by decide)
      clear hTV
      try simp only [Act.put, List.setIfInBounds_toArray, List.set_cons_zero, List.set_cons_succ]
      clear HtV HtW
      refine till_freeD (i := 7) (v := ?_) (some 5) rfl rfl (by decide) (by kernel_rfl) (by kernel_rfl) (by kernel_rfl) (fun _ _ _ h => h) (Or.inl ⟨by rfl, ?_⟩) ⟨hTU.1, fun _ => hTU.2⟩ ?_
      rotate_left
      · (intro w_ _; go_simp; try with_reducible rfl)
      try simp only [Act.put, List.setIfInBounds_toArray, List.set_cons_zero, List.set_cons_succ]
      refine till_one (i := 8) (by kernel_rfl) rfl (fun K hK => ?_)
      have kHG := bc0 HG.out
      have fHG := bf0 HG.out
      have yHG := blk_lt HG.out
      go_simp
      clear kHG fHG yHG
      replace HV := Aside0.mk (blk_far (p := ⟨g6, 1, none⟩) (blk_far (p := ⟨g6, 0, none⟩) HV.out (show t2_ ≠ g6 by omega) (.int .i64 0)) (show t2_ ≠ g6 by omega) (.int .i64 x3))
      replace HE := Aside0.mk (blk_far (p := ⟨g6, 1, none⟩) (blk_far (p := ⟨g6, 0, none⟩) HE.out (show t2_ + 1 ≠ g6 by omega) (.int .i64 0)) (show t2_ + 1 ≠ g6 by omega) (.int .i64 x3))
      replace HU := Aside0.mk (blk_far (p := ⟨g6, 1, none⟩) (blk_far (p := ⟨g6, 0, none⟩) HU.out (show t7_ ≠ g6 by omega) (.int .i64 0)) (show t7_ ≠ g6 by omega) (.int .i64 x3))
      replace HF := Aside0.mk (blk_far (p := ⟨g6, 1, none⟩) (blk_far (p := ⟨g6, 0, none⟩) HF.out (show t7_ + 1 ≠ g6 by omega) (.int .i64 0)) (show t7_ + 1 ≠ g6 by omega) (.int .i64 x3))
      replace HG : Aside0 ((((V0_1_2_6).setCell ⟨g6, 0, none⟩ (.int .i64 0)).setCell ⟨g6, 1, none⟩ (.int .i64 x3)).heap[g6]? = some (.cells #[(.int .i64 0), (.int .i64 x3)] 35 (0, 0))) := Aside0.mk (blk_put (blk_put HG.out 0 (.int .i64 0) rfl) 1 (.int .i64 x3) rfl)
      replace HvV := Aside0.mk (Kd.V_far (p := ⟨g6, 1, none⟩) (Kd.V_far (p := ⟨g6, 0, none⟩) HvV.out (fun k_ (hk_ : w1.heap.size ≤ k_ ∧ k_ ≠ g6) => by show k_ ≠ g6; omega) (.int .i64 0)) (fun k_ (hk_ : w1.heap.size ≤ k_ ∧ k_ ≠ g6) => by show k_ ≠ g6; omega) (.int .i64 x3))
      replace HuV := Aside0.mk (Kd.V_far (p := ⟨g6, 1, none⟩) (Kd.V_far (p := ⟨g6, 0, none⟩) HuV.out (fun k_ (hk_ : X6.heap.size ≤ k_ ∧ k_ ≠ g6) => by show k_ ≠ g6; omega) (.int .i64 0)) (fun k_ (hk_ : X6.heap.size ≤ k_ ∧ k_ ≠ g6) => by show k_ ≠ g6; omega) (.int .i64 x3))
      replace HB := Aside0.mk (below_set (j := 1) (v := (.int .i64 x3)) (below_set (j := 0) (v := (.int .i64 0)) HB.out (show w.heap.size ≤ g6 by omega)) (show w.heap.size ≤ g6 by omega))
      generalize ((V0_1_2_6).setCell ⟨g6, 0, none⟩ (.int .i64 0)).setCell ⟨g6, 1, none⟩ (.int .i64 x3) = Y9 at *
      refine hK.out _ _ trivial (fun _ h => absurd rfl h) (fun _ => ?_)
      clear hK K hTU
      refine till_done (by kernel_rfl) ?_ _
      have kHE := bc0 HE.out
      have mHE := bc1 HE.out
      have nHE := bc2 HE.out
      have fHE := bf0 HE.out
      have yHE := blk_lt HE.out
      have kHV := bc0 HV.out
      have mHV := bc1 HV.out
      have nHV := bc2 HV.out
      have fHV := bf0 HV.out
      have yHV := blk_lt HV.out
      go_wp2_with fail
      clear kHE mHE nHE fHE yHE kHV mHV nHV fHV yHV
      have l16_q9 := blk_lt HV.out
      have l17_q9 := blk_lt HE.out
      have l18_q9 := blk_lt HU.out
      have l19_q9 := blk_lt HF.out
      have l20_q9 := blk_lt HG.out
      replace HV := Aside0.mk (blk_later HV.out (.cells #[.int .i64 2, .int .i64 1] 58))
      replace HE := Aside0.mk (blk_later HE.out (.cells #[.int .i64 2, .int .i64 1] 58))
      replace HU := Aside0.mk (blk_later HU.out (.cells #[.int .i64 2, .int .i64 1] 58))
      replace HF := Aside0.mk (blk_later HF.out (.cells #[.int .i64 2, .int .i64 1] 58))
      replace HG := Aside0.mk (blk_later HG.out (.cells #[.int .i64 2, .int .i64 1] 58))
      replace HvV := Aside0.mk (Kd.V_alloc HvV.out (.cells #[.int .i64 2, .int .i64 1] 58))
      replace HuV := Aside0.mk (Kd.V_alloc HuV.out (.cells #[.int .i64 2, .int .i64 1] 58))
      replace HB := Aside0.mk (below_alloc HB.out (.cells #[.int .i64 2, .int .i64 1] 58))
      have HQ := Aside0.mk (blk_at (w := Y9) (.cells #[.int .i64 2, .int .i64 1] 58))
      have hs9 : (Y9.alloc (.cells #[.int .i64 2, .int .i64 1] 58)).heap.size = Y9.heap.size + 1 := by simp
      generalize Y9.alloc (.cells #[.int .i64 2, .int .i64 1] 58) = Y10 at *
      generalize Y9.heap.size = q9 at *
      refine (posthouseref8_SameSeen.calls k vA va [(⟨2, 1⟩ : S58)] (some ⟨q9, 0, none⟩) 1 [(⟨2, 1⟩ : S58)] true _ (Kd.F_now (Kd.V_F HvV.out)) (Kd.V_at HvV.out).2.1 (CV_seen1 (x := (⟨2, 1⟩ : S58)) HQ.out) (Nat.le_refl _) L1.out).mono ?_
      rintro e y11 ⟨rfl, hd⟩
      have hb := hd.below
      clear hd
      replace HV := Aside0.mk (blk_call HV.out hb)
      replace HE := Aside0.mk (blk_call HE.out hb)
      replace HU := Aside0.mk (blk_call HU.out hb)
      replace HF := Aside0.mk (blk_call HF.out hb)
      replace HG := Aside0.mk (blk_call HG.out hb)
      replace HQ := Aside0.mk (blk_call HQ.out hb)
      replace HvV := Aside0.mk (Kd.V_below HvV.out hb)
      replace HuV := Aside0.mk (Kd.V_below HuV.out hb)
      replace HB := Aside0.mk (below_step HB.out hb)
      clear hb
      clear HQ
      have kHF := bc0 HF.out
      have mHF := bc1 HF.out
      have nHF := bc2 HF.out
      have fHF := bf0 HF.out
      have yHF := blk_lt HF.out
      have kHU := bc0 HU.out
      have mHU := bc1 HU.out
      have nHU := bc2 HU.out
      have fHU := bf0 HU.out
      have yHU := blk_lt HU.out
      go_wp2_with fail
      clear kHF mHF nHF fHF yHF kHU mHU nHU fHU yHU
      have l21_q11 := blk_lt HV.out
      have l22_q11 := blk_lt HE.out
      have l23_q11 := blk_lt HU.out
      have l24_q11 := blk_lt HF.out
      have l25_q11 := blk_lt HG.out
      replace HV := Aside0.mk (blk_later HV.out (.cells #[.int .i64 2, .int .i64 1, .int .i64 7, .int .i64 2] 58))
      replace HE := Aside0.mk (blk_later HE.out (.cells #[.int .i64 2, .int .i64 1, .int .i64 7, .int .i64 2] 58))
      replace HU := Aside0.mk (blk_later HU.out (.cells #[.int .i64 2, .int .i64 1, .int .i64 7, .int .i64 2] 58))
      replace HF := Aside0.mk (blk_later HF.out (.cells #[.int .i64 2, .int .i64 1, .int .i64 7, .int .i64 2] 58))
      replace HG := Aside0.mk (blk_later HG.out (.cells #[.int .i64 2, .int .i64 1, .int .i64 7, .int .i64 2] 58))
      replace HvV := Aside0.mk (Kd.V_alloc HvV.out (.cells #[.int .i64 2, .int .i64 1, .int .i64 7, .int .i64 2] 58))
      replace HuV := Aside0.mk (Kd.V_alloc HuV.out (.cells #[.int .i64 2, .int .i64 1, .int .i64 7, .int .i64 2] 58))
      replace HB := Aside0.mk (below_alloc HB.out (.cells #[.int .i64 2, .int .i64 1, .int .i64 7, .int .i64 2] 58))
      have HQ := Aside0.mk (blk_at (w := y11) (.cells #[.int .i64 2, .int .i64 1, .int .i64 7, .int .i64 2] 58))
      have hs11 : (y11.alloc (.cells #[.int .i64 2, .int .i64 1, .int .i64 7, .int .i64 2] 58)).heap.size = y11.heap.size + 1 := by simp
      generalize y11.alloc (.cells #[.int .i64 2, .int .i64 1, .int .i64 7, .int .i64 2] 58) = Y12 at *
      generalize y11.heap.size = q11 at *
      refine (posthouseref8_SameSeen.calls k uA ua [(⟨2, 1⟩ : S58), (⟨7, 2⟩ : S58)] (some ⟨q11, 0, none⟩) 2 [(⟨2, 1⟩ : S58), (⟨7, 2⟩ : S58)] true _ (Kd.F_now (Kd.V_F HuV.out)) (Kd.V_at HuV.out).2.1 (CV_seen2 (x := (⟨2, 1⟩ : S58)) (y := (⟨7, 2⟩ : S58)) HQ.out) (Nat.le_refl _) L2.out).mono ?_
      rintro e y13 ⟨rfl, hd⟩
      have hb := hd.below
      clear hd
      replace HV := Aside0.mk (blk_call HV.out hb)
      replace HE := Aside0.mk (blk_call HE.out hb)
      replace HU := Aside0.mk (blk_call HU.out hb)
      replace HF := Aside0.mk (blk_call HF.out hb)
      replace HG := Aside0.mk (blk_call HG.out hb)
      replace HQ := Aside0.mk (blk_call HQ.out hb)
      replace HvV := Aside0.mk (Kd.V_below HvV.out hb)
      replace HuV := Aside0.mk (Kd.V_below HuV.out hb)
      replace HB := Aside0.mk (below_step HB.out hb)
      clear hb
      clear HQ
      have kHG := bc0 HG.out
      have mHG := bc1 HG.out
      have nHG := bc2 HG.out
      have fHG := bf0 HG.out
      have yHG := blk_lt HG.out
      have kHV := bc0 HV.out
      have mHV := bc1 HV.out
      have nHV := bc2 HV.out
      have fHV := bf0 HV.out
      have yHV := blk_lt HV.out
      go_wp2_with fail
      clear kHG mHG nHG fHG yHG kHV mHV nHV fHV yHV
      refine (views_Validate.calls 5 vA va [(⟨2, 1⟩ : S58)] 0 x4 _ (Kd.F_now (Kd.V_F HvV.out)) (Kd.V_at HvV.out).2.1 LV.out).mono ?_
      rintro e y14 ⟨rfl, hb⟩
      replace HV := Aside0.mk (blk_call HV.out hb)
      replace HE := Aside0.mk (blk_call HE.out hb)
      replace HU := Aside0.mk (blk_call HU.out hb)
      replace HF := Aside0.mk (blk_call HF.out hb)
      replace HG := Aside0.mk (blk_call HG.out hb)
      replace HvV := Aside0.mk (Kd.V_below HvV.out hb)
      replace HuV := Aside0.mk (Kd.V_below HuV.out hb)
      replace HB := Aside0.mk (below_step HB.out hb)
      clear hb
      go_wp2
      go_ret
      exact ⟨rfl, HB.out⟩
    · skip
      go_simp
      have hd6 := below_size HB.out
      replace HtV := Aside0.mk (Kd.V_alloc HtV.out (.cells #[.int .i64 0, .int .i64 0] 35))
      replace HtW := Aside0.mk (Kd.V_alloc HtW.out (.cells #[.int .i64 0, .int .i64 0] 35))
      have l12_g6 := blk_lt HV.out
      have l13_g6 := blk_lt HE.out
      have l14_g6 := blk_lt HU.out
      have l15_g6 := blk_lt HF.out
      replace HvV := Aside0.mk (Kd.V_mono (ok' := fun k_ => w1.heap.size ≤ k_ ∧ k_ ≠ V0_1.heap.size) (Kd.V_elderB HvV.out V0_1.heap.size (Nat.le_refl _)) (fun k_ hk_ => by have h1_ := hk_.1; have h2_ := hk_.2; omega))
      replace HuV := Aside0.mk (Kd.V_mono (ok' := fun k_ => X6.heap.size ≤ k_ ∧ k_ ≠ V0_1.heap.size) (Kd.V_elderB HuV.out V0_1.heap.size (Nat.le_refl _)) (fun k_ hk_ => by have h1_ := hk_.1; have h2_ := hk_.2; omega))
      replace HV := Aside0.mk (blk_later HV.out (.cells #[.int .i64 0, .int .i64 0] 35))
      replace HE := Aside0.mk (blk_later HE.out (.cells #[.int .i64 0, .int .i64 0] 35))
      replace HU := Aside0.mk (blk_later HU.out (.cells #[.int .i64 0, .int .i64 0] 35))
      replace HF := Aside0.mk (blk_later HF.out (.cells #[.int .i64 0, .int .i64 0] 35))
      replace HvV := Aside0.mk (Kd.V_alloc HvV.out (.cells #[.int .i64 0, .int .i64 0] 35))
      replace HuV := Aside0.mk (Kd.V_alloc HuV.out (.cells #[.int .i64 0, .int .i64 0] 35))
      replace HB := Aside0.mk (below_alloc HB.out (.cells #[.int .i64 0, .int .i64 0] 35))
      have HG := Aside0.mk (blk_at (w := V0_1) (.cells #[.int .i64 0, .int .i64 0] 35))
      have hs6 : (V0_1.alloc (.cells #[.int .i64 0, .int .i64 0] 35)).heap.size = V0_1.heap.size + 1 := by simp
      generalize V0_1.alloc (.cells #[.int .i64 0, .int .i64 0] 35) = V0_1_6 at *
      generalize V0_1.heap.size = g6 at *
      refine hK.out _ _ trivial (fun _ _ => ⟨bc0 HV.out 0, bc0 HV.out 1⟩) (fun hTV => ?_)
      clear hK K hTU
      have hTU := hTV (by kernel_rfl) (by decide)
      clear hTV
      try simp only [Act.put, List.setIfInBounds_toArray, List.set_cons_zero, List.set_cons_succ]
      refine till_one (i := 2) (by kernel_rfl) rfl (fun K hK => ?_)
      go_simp
      go_at_call 8
      refine (views_Same.calls k 5 vA va [(⟨2, 1⟩ : S58)] t0 t1 t2 tA ta t3 tB tb t4 true 0 x3 _ (Kd.F_now (Kd.V_F HvV.out)) (Kd.V_at HvV.out).2.1 (Kd.F_now (Kd.V_F HtV.out)) (Kd.V_at HtV.out).2.1 (Kd.F_now (Kd.V_F HtW.out)) (Kd.V_at HtW.out).2.1 LS.out).mono ?_
      rintro e V0_1_6_2 ⟨rfl, hb⟩
      replace HV := Aside0.mk (blk_call HV.out hb)
      replace HE := Aside0.mk (blk_call HE.out hb)
      replace HU := Aside0.mk (blk_call HU.out hb)
      replace HF := Aside0.mk (blk_call HF.out hb)
      replace HG := Aside0.mk (blk_call HG.out hb)
      replace HvV := Aside0.mk (Kd.V_below HvV.out hb)
      replace HuV := Aside0.mk (Kd.V_below HuV.out hb)
      replace HtV := Aside0.mk (Kd.V_below HtV.out hb)
      replace HtW := Aside0.mk (Kd.V_below HtW.out hb)
      replace HB := Aside0.mk (below_step HB.out hb)
      clear hb
      refine hK.out _ _ trivial (fun _ _ => ⟨bc0 HV.out 0, bc0 HV.out 1⟩) (fun hTV => ?_)
      clear hK K hTU
      have hTU := hTV (by kernel_rfl) (by decide)
      clear hTV
      try simp only [Act.put, List.setIfInBounds_toArray, List.set_cons_zero, List.set_cons_succ]
      refine till_freeD (i := 3) (v := ?_) (some 21) rfl rfl (by decide) (by kernel_rfl) (by kernel_rfl) (by kernel_rfl) (fun _ _ _ h => h) (Or.inl ⟨by rfl, ?_⟩) ⟨hTU.1, fun _ => hTU.2⟩ ?_
      rotate_left
      · (intro w_ _; go_simp; try with_reducible rfl)
      try simp only [Act.put, List.setIfInBounds_toArray, List.set_cons_zero, List.set_cons_succ]
      refine till_freeD (i := 4) (v := ?_) (some 25) rfl rfl (by decide) (by kernel_rfl) (by kernel_rfl) (by kernel_rfl) (fun _ _ _ h => h) (Or.inl ⟨by rfl, ?_⟩) ⟨hTU.1, fun _ => hTU.2⟩ ?_
      rotate_left
      · (intro w_ _; go_simp; try with_reducible rfl)
      try simp only [Act.put, List.setIfInBounds_toArray, List.set_cons_zero, List.set_cons_succ]
      refine till_freeD (i := 5) (v := ?_) (some 26) rfl rfl (by decide) (by kernel_rfl) (by kernel_rfl) (by kernel_rfl) (fun _ _ _ h => h) (Or.inl ⟨by rfl, ?_⟩) ⟨hTU.1, fun _ => hTU.2⟩ ?_
      rotate_left
      · (intro w_ _; go_simp; try with_reducible rfl)
      try simp only [Act.put, List.setIfInBounds_toArray, List.set_cons_zero, List.set_cons_succ]
      clear HtV HtW
      refine till_freeD (i := 7) (v := ?_) (some 5) rfl rfl (by decide) (by kernel_rfl) (by kernel_rfl) (by kernel_rfl) (fun _ _ _ h => h) (Or.inl ⟨by rfl, ?_⟩) ⟨hTU.1, fun _ => hTU.2⟩ ?_
      rotate_left
      · (intro w_ _; go_simp; try with_reducible rfl)
      try simp only [Act.put, List.setIfInBounds_toArray, List.set_cons_zero, List.set_cons_succ]
      refine till_one (i := 8) (by kernel_rfl) rfl (fun K hK => ?_)
      have kHG := bc0 HG.out
      have fHG := bf0 HG.out
      have yHG := blk_lt HG.out
      go_simp
      clear kHG fHG yHG
      replace HV := Aside0.mk (blk_far (p := ⟨g6, 1, none⟩) (blk_far (p := ⟨g6, 0, none⟩) HV.out (show t2_ ≠ g6 by omega) (.int .i64 0)) (show t2_ ≠ g6 by omega) (.int .i64 x3))
      replace HE := Aside0.mk (blk_far (p := ⟨g6, 1, none⟩) (blk_far (p := ⟨g6, 0, none⟩) HE.out (show t2_ + 1 ≠ g6 by omega) (.int .i64 0)) (show t2_ + 1 ≠ g6 by omega) (.int .i64 x3))
      replace HU := Aside0.mk (blk_far (p := ⟨g6, 1, none⟩) (blk_far (p := ⟨g6, 0, none⟩) HU.out (show t7_ ≠ g6 by omega) (.int .i64 0)) (show t7_ ≠ g6 by omega) (.int .i64 x3))
      replace HF := Aside0.mk (blk_far (p := ⟨g6, 1, none⟩) (blk_far (p := ⟨g6, 0, none⟩) HF.out (show t7_ + 1 ≠ g6 by omega) (.int .i64 0)) (show t7_ + 1 ≠ g6 by omega) (.int .i64 x3))
      replace HG : Aside0 ((((V0_1_6_2).setCell ⟨g6, 0, none⟩ (.int .i64 0)).setCell ⟨g6, 1, none⟩ (.int .i64 x3)).heap[g6]? = some (.cells #[(.int .i64 0), (.int .i64 x3)] 35 (0, 0))) := Aside0.mk (blk_put (blk_put HG.out 0 (.int .i64 0) rfl) 1 (.int .i64 x3) rfl)
      replace HvV := Aside0.mk (Kd.V_far (p := ⟨g6, 1, none⟩) (Kd.V_far (p := ⟨g6, 0, none⟩) HvV.out (fun k_ (hk_ : w1.heap.size ≤ k_ ∧ k_ ≠ g6) => by show k_ ≠ g6; omega) (.int .i64 0)) (fun k_ (hk_ : w1.heap.size ≤ k_ ∧ k_ ≠ g6) => by show k_ ≠ g6; omega) (.int .i64 x3))
      replace HuV := Aside0.mk (Kd.V_far (p := ⟨g6, 1, none⟩) (Kd.V_far (p := ⟨g6, 0, none⟩) HuV.out (fun k_ (hk_ : X6.heap.size ≤ k_ ∧ k_ ≠ g6) => by show k_ ≠ g6; omega) (.int .i64 0)) (fun k_ (hk_ : X6.heap.size ≤ k_ ∧ k_ ≠ g6) => by show k_ ≠ g6; omega) (.int .i64 x3))
      replace HB := Aside0.mk (below_set (j := 1) (v := (.int .i64 x3)) (below_set (j := 0) (v := (.int .i64 0)) HB.out (show w.heap.size ≤ g6 by omega)) (show w.heap.size ≤ g6 by omega))
      generalize ((V0_1_6_2).setCell ⟨g6, 0, none⟩ (.int .i64 0)).setCell ⟨g6, 1, none⟩ (.int .i64 x3) = Y9 at *
      refine hK.out _ _ trivial (fun _ h => absurd rfl h) (fun _ => ?_)
      clear hK K hTU
      refine till_done (by kernel_rfl) ?_ _
      have kHE := bc0 HE.out
      have mHE := bc1 HE.out
      have nHE := bc2 HE.out
      have fHE := bf0 HE.out
      have yHE := blk_lt HE.out
      have kHV := bc0 HV.out
      have mHV := bc1 HV.out
      have nHV := bc2 HV.out
      have fHV := bf0 HV.out
      have yHV := blk_lt HV.out
      go_wp2_with fail
      clear kHE mHE nHE fHE yHE kHV mHV nHV fHV yHV
      have l16_q9 := blk_lt HV.out
      have l17_q9 := blk_lt HE.out
      have l18_q9 := blk_lt HU.out
      have l19_q9 := blk_lt HF.out
      have l20_q9 := blk_lt HG.out
      replace HV := Aside0.mk (blk_later HV.out (.cells #[.int .i64 2, .int .i64 1] 58))
      replace HE := Aside0.mk (blk_later HE.out (.cells #[.int .i64 2, .int .i64 1] 58))
      replace HU := Aside0.mk (blk_later HU.out (.cells #[.int .i64 2, .int .i64 1] 58))
      replace HF := Aside0.mk (blk_later HF.out (.cells #[.int .i64 2, .int .i64 1] 58))
      replace HG := Aside0.mk (blk_later HG.out (.cells #[.int .i64 2, .int .i64 1] 58))
      replace HvV := Aside0.mk (Kd.V_alloc HvV.out (.cells #[.int .i64 2, .int .i64 1] 58))
      replace HuV := Aside0.mk (Kd.V_alloc HuV.out (.cells #[.int .i64 2, .int .i64 1] 58))
      replace HB := Aside0.mk (below_alloc HB.out (.cells #[.int .i64 2, .int .i64 1] 58))
      have HQ := Aside0.mk (blk_at (w := Y9) (.cells #[.int .i64 2, .int .i64 1] 58))
      have hs9 : (Y9.alloc (.cells #[.int .i64 2, .int .i64 1] 58)).heap.size = Y9.heap.size + 1 := by simp
      generalize Y9.alloc (.cells #[.int .i64 2, .int .i64 1] 58) = Y10 at *
      generalize Y9.heap.size = q9 at *
      refine (posthouseref8_SameSeen.calls k vA va [(⟨2, 1⟩ : S58)] (some ⟨q9, 0, none⟩) 1 [(⟨2, 1⟩ : S58)] true _ (Kd.F_now (Kd.V_F HvV.out)) (Kd.V_at HvV.out).2.1 (CV_seen1 (x := (⟨2, 1⟩ : S58)) HQ.out) (Nat.le_refl _) L1.out).mono ?_
      rintro e y11 ⟨rfl, hd⟩
      have hb := hd.below
      clear hd
      replace HV := Aside0.mk (blk_call HV.out hb)
      replace HE := Aside0.mk (blk_call HE.out hb)
      replace HU := Aside0.mk (blk_call HU.out hb)
      replace HF := Aside0.mk (blk_call HF.out hb)
      replace HG := Aside0.mk (blk_call HG.out hb)
      replace HQ := Aside0.mk (blk_call HQ.out hb)
      replace HvV := Aside0.mk (Kd.V_below HvV.out hb)
      replace HuV := Aside0.mk (Kd.V_below HuV.out hb)
      replace HB := Aside0.mk (below_step HB.out hb)
      clear hb
      clear HQ
      have kHF := bc0 HF.out
      have mHF := bc1 HF.out
      have nHF := bc2 HF.out
      have fHF := bf0 HF.out
      have yHF := blk_lt HF.out
      have kHU := bc0 HU.out
      have mHU := bc1 HU.out
      have nHU := bc2 HU.out
      have fHU := bf0 HU.out
      have yHU := blk_lt HU.out
      go_wp2_with fail
      clear kHF mHF nHF fHF yHF kHU mHU nHU fHU yHU
      have l21_q11 := blk_lt HV.out
      have l22_q11 := blk_lt HE.out
      have l23_q11 := blk_lt HU.out
      have l24_q11 := blk_lt HF.out
      have l25_q11 := blk_lt HG.out
      replace HV := Aside0.mk (blk_later HV.out (.cells #[.int .i64 2, .int .i64 1, .int .i64 7, .int .i64 2] 58))
      replace HE := Aside0.mk (blk_later HE.out (.cells #[.int .i64 2, .int .i64 1, .int .i64 7, .int .i64 2] 58))
      replace HU := Aside0.mk (blk_later HU.out (.cells #[.int .i64 2, .int .i64 1, .int .i64 7, .int .i64 2] 58))
      replace HF := Aside0.mk (blk_later HF.out (.cells #[.int .i64 2, .int .i64 1, .int .i64 7, .int .i64 2] 58))
      replace HG := Aside0.mk (blk_later HG.out (.cells #[.int .i64 2, .int .i64 1, .int .i64 7, .int .i64 2] 58))
      replace HvV := Aside0.mk (Kd.V_alloc HvV.out (.cells #[.int .i64 2, .int .i64 1, .int .i64 7, .int .i64 2] 58))
      replace HuV := Aside0.mk (Kd.V_alloc HuV.out (.cells #[.int .i64 2, .int .i64 1, .int .i64 7, .int .i64 2] 58))
      replace HB := Aside0.mk (below_alloc HB.out (.cells #[.int .i64 2, .int .i64 1, .int .i64 7, .int .i64 2] 58))
      have HQ := Aside0.mk (blk_at (w := y11) (.cells #[.int .i64 2, .int .i64 1, .int .i64 7, .int .i64 2] 58))
      have hs11 : (y11.alloc (.cells #[.int .i64 2, .int .i64 1, .int .i64 7, .int .i64 2] 58)).heap.size = y11.heap.size + 1 := by simp
      generalize y11.alloc (.cells #[.int .i64 2, .int .i64 1, .int .i64 7, .int .i64 2] 58) = Y12 at *
      generalize y11.heap.size = q11 at *
      refine (posthouseref8_SameSeen.calls k uA ua [(⟨2, 1⟩ : S58), (⟨7, 2⟩ : S58)] (some ⟨q11, 0, none⟩) 2 [(⟨2, 1⟩ : S58), (⟨7, 2⟩ : S58)] true _ (Kd.F_now (Kd.V_F HuV.out)) (Kd.V_at HuV.out).2.1 (CV_seen2 (x := (⟨2, 1⟩ : S58)) (y := (⟨7, 2⟩ : S58)) HQ.out) (Nat.le_refl _) L2.out).mono ?_
      rintro e y13 ⟨rfl, hd⟩
      have hb := hd.below
      clear hd
      replace HV := Aside0.mk (blk_call HV.out hb)
      replace HE := Aside0.mk (blk_call HE.out hb)
      replace HU := Aside0.mk (blk_call HU.out hb)
      replace HF := Aside0.mk (blk_call HF.out hb)
      replace HG := Aside0.mk (blk_call HG.out hb)
      replace HQ := Aside0.mk (blk_call HQ.out hb)
      replace HvV := Aside0.mk (Kd.V_below HvV.out hb)
      replace HuV := Aside0.mk (Kd.V_below HuV.out hb)
      replace HB := Aside0.mk (below_step HB.out hb)
      clear hb
      clear HQ
      have kHG := bc0 HG.out
      have mHG := bc1 HG.out
      have nHG := bc2 HG.out
      have fHG := bf0 HG.out
      have yHG := blk_lt HG.out
      have kHV := bc0 HV.out
      have mHV := bc1 HV.out
      have nHV := bc2 HV.out
      have fHV := bf0 HV.out
      have yHV := blk_lt HV.out
      go_wp2_with fail
      clear kHG mHG nHG fHG yHG kHV mHV nHV fHV yHV
      refine (views_Validate.calls 5 vA va [(⟨2, 1⟩ : S58)] 0 x4 _ (Kd.F_now (Kd.V_F HvV.out)) (Kd.V_at HvV.out).2.1 LV.out).mono ?_
      rintro e y14 ⟨rfl, hb⟩
      replace HV := Aside0.mk (blk_call HV.out hb)
      replace HE := Aside0.mk (blk_call HE.out hb)
      replace HU := Aside0.mk (blk_call HU.out hb)
      replace HF := Aside0.mk (blk_call HF.out hb)
      replace HG := Aside0.mk (blk_call HG.out hb)
      replace HvV := Aside0.mk (Kd.V_below HvV.out hb)
      replace HuV := Aside0.mk (Kd.V_below HuV.out hb)
      replace HB := Aside0.mk (below_step HB.out hb)
      clear hb
      go_wp2
      go_ret
      exact ⟨rfl, HB.out⟩
  · skip
    go_simp
    have hd6 := below_size HB.out
    have l12_g6 := blk_lt HV.out
    have l13_g6 := blk_lt HE.out
    have l14_g6 := blk_lt HU.out
    have l15_g6 := blk_lt HF.out
    replace HvV := Aside0.mk (Kd.V_mono (ok' := fun k_ => w1.heap.size ≤ k_ ∧ k_ ≠ V0.heap.size) (Kd.V_elderB HvV.out V0.heap.size (Nat.le_refl _)) (fun k_ hk_ => by have h1_ := hk_.1; have h2_ := hk_.2; omega))
    replace HuV := Aside0.mk (Kd.V_mono (ok' := fun k_ => X6.heap.size ≤ k_ ∧ k_ ≠ V0.heap.size) (Kd.V_elderB HuV.out V0.heap.size (Nat.le_refl _)) (fun k_ hk_ => by have h1_ := hk_.1; have h2_ := hk_.2; omega))
    replace HV := Aside0.mk (blk_later HV.out (.cells #[.int .i64 0, .int .i64 0] 35))
    replace HE := Aside0.mk (blk_later HE.out (.cells #[.int .i64 0, .int .i64 0] 35))
    replace HU := Aside0.mk (blk_later HU.out (.cells #[.int .i64 0, .int .i64 0] 35))
    replace HF := Aside0.mk (blk_later HF.out (.cells #[.int .i64 0, .int .i64 0] 35))
    replace HvV := Aside0.mk (Kd.V_alloc HvV.out (.cells #[.int .i64 0, .int .i64 0] 35))
    replace HuV := Aside0.mk (Kd.V_alloc HuV.out (.cells #[.int .i64 0, .int .i64 0] 35))
    replace HB := Aside0.mk (below_alloc HB.out (.cells #[.int .i64 0, .int .i64 0] 35))
    have HG := Aside0.mk (blk_at (w := V0) (.cells #[.int .i64 0, .int .i64 0] 35))
    have hs6 : (V0.alloc (.cells #[.int .i64 0, .int .i64 0] 35)).heap.size = V0.heap.size + 1 := by simp
    generalize V0.alloc (.cells #[.int .i64 0, .int .i64 0] 35) = V0_6 at *
    generalize V0.heap.size = g6 at *
    refine hK.out _ _ trivial (fun _ _ => ⟨bc0 HV.out 0, bc0 HV.out 1⟩) (fun hTV => ?_)
    clear hK K hTU
    have hTU := hTV (by kernel_rfl) (by decide)
    clear hTV
    try simp only [Act.put, List.setIfInBounds_toArray, List.set_cons_zero, List.set_cons_succ]
    refine till_one (i := 1) (by kernel_rfl) rfl (fun K hK => ?_)
    go_simp
    go_at_call 15
    refine (posthouselaw8_three.calls t0 t1 t2 t3 t4 _ LT.out).mono ?_
    rintro e V0_6_1 ⟨v3_, v4_, rfl, hv3_, hv4_, hb⟩
    obtain ⟨tA, ta, rfl⟩ := Kd.V_slice hv3_
    obtain ⟨tB, tb, rfl⟩ := Kd.V_slice hv4_
    have HtV := Aside0.mk hv3_
    have HtW := Aside0.mk hv4_
    clear hv3_ hv4_
    replace HV := Aside0.mk (blk_call HV.out hb)
    replace HE := Aside0.mk (blk_call HE.out hb)
    replace HU := Aside0.mk (blk_call HU.out hb)
    replace HF := Aside0.mk (blk_call HF.out hb)
    replace HG := Aside0.mk (blk_call HG.out hb)
    replace HvV := Aside0.mk (Kd.V_below HvV.out hb)
    replace HuV := Aside0.mk (Kd.V_below HuV.out hb)
    replace HB := Aside0.mk (below_step HB.out hb)
    clear hb
    refine hK.out _ _ trivial (fun _ _ => ⟨bc0 HV.out 0, bc0 HV.out 1⟩) (fun hTV => ?_)
    clear hK K hTU
    have hTU := hTV (by kernel_rfl) (by decide)
    clear hTV
    try simp only [Act.put, List.setIfInBounds_toArray, List.set_cons_zero, List.set_cons_succ]
    refine till_one (i := 2) (by kernel_rfl) rfl (fun K hK => ?_)
    go_simp
    go_at_call 8
    refine (views_Same.calls k 5 vA va [(⟨2, 1⟩ : S58)] t0 t1 t2 tA ta t3 tB tb t4 true 0 x3 _ (Kd.F_now (Kd.V_F HvV.out)) (Kd.V_at HvV.out).2.1 (Kd.F_now (Kd.V_F HtV.out)) (Kd.V_at HtV.out).2.1 (Kd.F_now (Kd.V_F HtW.out)) (Kd.V_at HtW.out).2.1 LS.out).mono ?_
    rintro e V0_6_1_2 ⟨rfl, hb⟩
    replace HV := Aside0.mk (blk_call HV.out hb)
    replace HE := Aside0.mk (blk_call HE.out hb)
    replace HU := Aside0.mk (blk_call HU.out hb)
    replace HF := Aside0.mk (blk_call HF.out hb)
    replace HG := Aside0.mk (blk_call HG.out hb)
    replace HvV := Aside0.mk (Kd.V_below HvV.out hb)
    replace HuV := Aside0.mk (Kd.V_below HuV.out hb)
    replace HtV := Aside0.mk (Kd.V_below HtV.out hb)
    replace HtW := Aside0.mk (Kd.V_below HtW.out hb)
    replace HB := Aside0.mk (below_step HB.out hb)
    clear hb
    refine hK.out _ _ trivial (fun _ _ => ⟨bc0 HV.out 0, bc0 HV.out 1⟩) (fun hTV => ?_)
    clear hK K hTU
    have hTU := hTV (by kernel_rfl) (by decide)
    clear hTV
    try simp only [Act.put, List.setIfInBounds_toArray, List.set_cons_zero, List.set_cons_succ]
    refine till_freeD (i := 3) (v := ?_) (some 21) rfl rfl (by decide) (by kernel_rfl) (by kernel_rfl) (by kernel_rfl) (fun _ _ _ h => h) (Or.inl ⟨by rfl, ?_⟩) ⟨hTU.1, fun _ => hTU.2⟩ ?_
    rotate_left
    · (intro w_ _; go_simp; try with_reducible rfl)
    try simp only [Act.put, List.setIfInBounds_toArray, List.set_cons_zero, List.set_cons_succ]
    refine till_freeD (i := 4) (v := ?_) (some 25) rfl rfl (by decide) (by kernel_rfl) (by kernel_rfl) (by kernel_rfl) (fun _ _ _ h => h) (Or.inl ⟨by rfl, ?_⟩) ⟨hTU.1, fun _ => hTU.2⟩ ?_
    rotate_left
    · (intro w_ _; go_simp; try with_reducible rfl)
    try simp only [Act.put, List.setIfInBounds_toArray, List.set_cons_zero, List.set_cons_succ]
    refine till_freeD (i := 5) (v := ?_) (some 26) rfl rfl (by decide) (by kernel_rfl) (by kernel_rfl) (by kernel_rfl) (fun _ _ _ h => h) (Or.inl ⟨by rfl, ?_⟩) ⟨hTU.1, fun _ => hTU.2⟩ ?_
    rotate_left
    · (intro w_ _; go_simp; try with_reducible rfl)
    try simp only [Act.put, List.setIfInBounds_toArray, List.set_cons_zero, List.set_cons_succ]
    clear HtV HtW
    refine till_freeD (i := 7) (v := ?_) (some 5) rfl rfl (by decide) (by kernel_rfl) (by kernel_rfl) (by kernel_rfl) (fun _ _ _ h => h) (Or.inl ⟨by rfl, ?_⟩) ⟨hTU.1, fun _ => hTU.2⟩ ?_
    rotate_left
    · (intro w_ _; go_simp; try with_reducible rfl)
    try simp only [Act.put, List.setIfInBounds_toArray, List.set_cons_zero, List.set_cons_succ]
    refine till_one (i := 8) (by kernel_rfl) rfl (fun K hK => ?_)
    have kHG := bc0 HG.out
    have fHG := bf0 HG.out
    have yHG := blk_lt HG.out
    go_simp
    clear kHG fHG yHG
    replace HV := Aside0.mk (blk_far (p := ⟨g6, 1, none⟩) (blk_far (p := ⟨g6, 0, none⟩) HV.out (show t2_ ≠ g6 by omega) (.int .i64 0)) (show t2_ ≠ g6 by omega) (.int .i64 x3))
    replace HE := Aside0.mk (blk_far (p := ⟨g6, 1, none⟩) (blk_far (p := ⟨g6, 0, none⟩) HE.out (show t2_ + 1 ≠ g6 by omega) (.int .i64 0)) (show t2_ + 1 ≠ g6 by omega) (.int .i64 x3))
    replace HU := Aside0.mk (blk_far (p := ⟨g6, 1, none⟩) (blk_far (p := ⟨g6, 0, none⟩) HU.out (show t7_ ≠ g6 by omega) (.int .i64 0)) (show t7_ ≠ g6 by omega) (.int .i64 x3))
    replace HF := Aside0.mk (blk_far (p := ⟨g6, 1, none⟩) (blk_far (p := ⟨g6, 0, none⟩) HF.out (show t7_ + 1 ≠ g6 by omega) (.int .i64 0)) (show t7_ + 1 ≠ g6 by omega) (.int .i64 x3))
    replace HG : Aside0 ((((V0_6_1_2).setCell ⟨g6, 0, none⟩ (.int .i64 0)).setCell ⟨g6, 1, none⟩ (.int .i64 x3)).heap[g6]? = some (.cells #[(.int .i64 0), (.int .i64 x3)] 35 (0, 0))) := Aside0.mk (blk_put (blk_put HG.out 0 (.int .i64 0) rfl) 1 (.int .i64 x3) rfl)
    replace HvV := Aside0.mk (Kd.V_far (p := ⟨g6, 1, none⟩) (Kd.V_far (p := ⟨g6, 0, none⟩) HvV.out (fun k_ (hk_ : w1.heap.size ≤ k_ ∧ k_ ≠ g6) => by show k_ ≠ g6; omega) (.int .i64 0)) (fun k_ (hk_ : w1.heap.size ≤ k_ ∧ k_ ≠ g6) => by show k_ ≠ g6; omega) (.int .i64 x3))
    replace HuV := Aside0.mk (Kd.V_far (p := ⟨g6, 1, none⟩) (Kd.V_far (p := ⟨g6, 0, none⟩) HuV.out (fun k_ (hk_ : X6.heap.size ≤ k_ ∧ k_ ≠ g6) => by show k_ ≠ g6; omega) (.int .i64 0)) (fun k_ (hk_ : X6.heap.size ≤ k_ ∧ k_ ≠ g6) => by show k_ ≠ g6; omega) (.int .i64 x3))
    replace HB := Aside0.mk (below_set (j := 1) (v := (.int .i64 x3)) (below_set (j := 0) (v := (.int .i64 0)) HB.out (show w.heap.size ≤ g6 by omega)) (show w.heap.size ≤ g6 by omega))
    generalize ((V0_6_1_2).setCell ⟨g6, 0, none⟩ (.int .i64 0)).setCell ⟨g6, 1, none⟩ (.int .i64 x3) = Y9 at *
    refine hK.out _ _ trivial (fun _ h => absurd rfl h) (fun _ => ?_)
    clear hK K hTU
    refine till_done (by kernel_rfl) ?_ _
    have kHE := bc0 HE.out
    have mHE := bc1 HE.out
    have nHE := bc2 HE.out
    have fHE := bf0 HE.out
    have yHE := blk_lt HE.out
    have kHV := bc0 HV.out
    have mHV := bc1 HV.out
    have nHV := bc2 HV.out
    have fHV := bf0 HV.out
    have yHV := blk_lt HV.out
    go_wp2_with fail
    clear kHE mHE nHE fHE yHE kHV mHV nHV fHV yHV
    have l16_q9 := blk_lt HV.out
    have l17_q9 := blk_lt HE.out
    have l18_q9 := blk_lt HU.out
    have l19_q9 := blk_lt HF.out
    have l20_q9 := blk_lt HG.out
    replace HV := Aside0.mk (blk_later HV.out (.cells #[.int .i64 2, .int .i64 1] 58))
    replace HE := Aside0.mk (blk_later HE.out (.cells #[.int .i64 2, .int .i64 1] 58))
    replace HU := Aside0.mk (blk_later HU.out (.cells #[.int .i64 2, .int .i64 1] 58))
    replace HF := Aside0.mk (blk_later HF.out (.cells #[.int .i64 2, .int .i64 1] 58))
    replace HG := Aside0.mk (blk_later HG.out (.cells #[.int .i64 2, .int .i64 1] 58))
    replace HvV := Aside0.mk (Kd.V_alloc HvV.out (.cells #[.int .i64 2, .int .i64 1] 58))
    replace HuV := Aside0.mk (Kd.V_alloc HuV.out (.cells #[.int .i64 2, .int .i64 1] 58))
    replace HB := Aside0.mk (below_alloc HB.out (.cells #[.int .i64 2, .int .i64 1] 58))
    have HQ := Aside0.mk (blk_at (w := Y9) (.cells #[.int .i64 2, .int .i64 1] 58))
    have hs9 : (Y9.alloc (.cells #[.int .i64 2, .int .i64 1] 58)).heap.size = Y9.heap.size + 1 := by simp
    generalize Y9.alloc (.cells #[.int .i64 2, .int .i64 1] 58) = Y10 at *
    generalize Y9.heap.size = q9 at *
    refine (posthouseref8_SameSeen.calls k vA va [(⟨2, 1⟩ : S58)] (some ⟨q9, 0, none⟩) 1 [(⟨2, 1⟩ : S58)] true _ (Kd.F_now (Kd.V_F HvV.out)) (Kd.V_at HvV.out).2.1 (CV_seen1 (x := (⟨2, 1⟩ : S58)) HQ.out) (Nat.le_refl _) L1.out).mono ?_
    rintro e y11 ⟨rfl, hd⟩
    have hb := hd.below
    clear hd
    replace HV := Aside0.mk (blk_call HV.out hb)
    replace HE := Aside0.mk (blk_call HE.out hb)
    replace HU := Aside0.mk (blk_call HU.out hb)
    replace HF := Aside0.mk (blk_call HF.out hb)
    replace HG := Aside0.mk (blk_call HG.out hb)
    replace HQ := Aside0.mk (blk_call HQ.out hb)
    replace HvV := Aside0.mk (Kd.V_below HvV.out hb)
    replace HuV := Aside0.mk (Kd.V_below HuV.out hb)
    replace HB := Aside0.mk (below_step HB.out hb)
    clear hb
    clear HQ
    have kHF := bc0 HF.out
    have mHF := bc1 HF.out
    have nHF := bc2 HF.out
    have fHF := bf0 HF.out
    have yHF := blk_lt HF.out
    have kHU := bc0 HU.out
    have mHU := bc1 HU.out
    have nHU := bc2 HU.out
    have fHU := bf0 HU.out
    have yHU := blk_lt HU.out
    go_wp2_with fail
    clear kHF mHF nHF fHF yHF kHU mHU nHU fHU yHU
    have l21_q11 := blk_lt HV.out
    have l22_q11 := blk_lt HE.out
    have l23_q11 := blk_lt HU.out
    have l24_q11 := blk_lt HF.out
    have l25_q11 := blk_lt HG.out
    replace HV := Aside0.mk (blk_later HV.out (.cells #[.int .i64 2, .int .i64 1, .int .i64 7, .int .i64 2] 58))
    replace HE := Aside0.mk (blk_later HE.out (.cells #[.int .i64 2, .int .i64 1, .int .i64 7, .int .i64 2] 58))
    replace HU := Aside0.mk (blk_later HU.out (.cells #[.int .i64 2, .int .i64 1, .int .i64 7, .int .i64 2] 58))
    replace HF := Aside0.mk (blk_later HF.out (.cells #[.int .i64 2, .int .i64 1, .int .i64 7, .int .i64 2] 58))
    replace HG := Aside0.mk (blk_later HG.out (.cells #[.int .i64 2, .int .i64 1, .int .i64 7, .int .i64 2] 58))
    replace HvV := Aside0.mk (Kd.V_alloc HvV.out (.cells #[.int .i64 2, .int .i64 1, .int .i64 7, .int .i64 2] 58))
    replace HuV := Aside0.mk (Kd.V_alloc HuV.out (.cells #[.int .i64 2, .int .i64 1, .int .i64 7, .int .i64 2] 58))
    replace HB := Aside0.mk (below_alloc HB.out (.cells #[.int .i64 2, .int .i64 1, .int .i64 7, .int .i64 2] 58))
    have HQ := Aside0.mk (blk_at (w := y11) (.cells #[.int .i64 2, .int .i64 1, .int .i64 7, .int .i64 2] 58))
    have hs11 : (y11.alloc (.cells #[.int .i64 2, .int .i64 1, .int .i64 7, .int .i64 2] 58)).heap.size = y11.heap.size + 1 := by simp
    generalize y11.alloc (.cells #[.int .i64 2, .int .i64 1, .int .i64 7, .int .i64 2] 58) = Y12 at *
    generalize y11.heap.size = q11 at *
    refine (posthouseref8_SameSeen.calls k uA ua [(⟨2, 1⟩ : S58), (⟨7, 2⟩ : S58)] (some ⟨q11, 0, none⟩) 2 [(⟨2, 1⟩ : S58), (⟨7, 2⟩ : S58)] true _ (Kd.F_now (Kd.V_F HuV.out)) (Kd.V_at HuV.out).2.1 (CV_seen2 (x := (⟨2, 1⟩ : S58)) (y := (⟨7, 2⟩ : S58)) HQ.out) (Nat.le_refl _) L2.out).mono ?_
    rintro e y13 ⟨rfl, hd⟩
    have hb := hd.below
    clear hd
    replace HV := Aside0.mk (blk_call HV.out hb)
    replace HE := Aside0.mk (blk_call HE.out hb)
    replace HU := Aside0.mk (blk_call HU.out hb)
    replace HF := Aside0.mk (blk_call HF.out hb)
    replace HG := Aside0.mk (blk_call HG.out hb)
    replace HQ := Aside0.mk (blk_call HQ.out hb)
    replace HvV := Aside0.mk (Kd.V_below HvV.out hb)
    replace HuV := Aside0.mk (Kd.V_below HuV.out hb)
    replace HB := Aside0.mk (below_step HB.out hb)
    clear hb
    clear HQ
    have kHG := bc0 HG.out
    have mHG := bc1 HG.out
    have nHG := bc2 HG.out
    have fHG := bf0 HG.out
    have yHG := blk_lt HG.out
    have kHV := bc0 HV.out
    have mHV := bc1 HV.out
    have nHV := bc2 HV.out
    have fHV := bf0 HV.out
    have yHV := blk_lt HV.out
    go_wp2_with fail
    clear kHG mHG nHG fHG yHG kHV mHV nHV fHV yHV
    refine (views_Validate.calls 5 vA va [(⟨2, 1⟩ : S58)] 0 x4 _ (Kd.F_now (Kd.V_F HvV.out)) (Kd.V_at HvV.out).2.1 LV.out).mono ?_
    rintro e y14 ⟨rfl, hb⟩
    replace HV := Aside0.mk (blk_call HV.out hb)
    replace HE := Aside0.mk (blk_call HE.out hb)
    replace HU := Aside0.mk (blk_call HU.out hb)
    replace HF := Aside0.mk (blk_call HF.out hb)
    replace HG := Aside0.mk (blk_call HG.out hb)
    replace HvV := Aside0.mk (Kd.V_below HvV.out hb)
    replace HuV := Aside0.mk (Kd.V_below HuV.out hb)
    replace HB := Aside0.mk (below_step HB.out hb)
    clear hb
    go_wp2
    go_ret
    exact ⟨rfl, HB.out⟩
def vMsgB : S29 := ⟨[⟨⟨#[83, 117, 98, 106, 101, 99, 116]⟩, ⟨#[98]⟩⟩], [120, 13, 10]⟩
theorem vthree_is : posthouselaw8_three.f = some (3, 5, 0, [⟨2, 3, 1, 9, vMsgB⟩], [⟨1, 4⟩]) := by kernel_rfl
theorem vof_is : views_Of.f 100 3 5 0 [⟨2, 3, 1, 9, vMsgB⟩] [⟨1, 4⟩] = some (5, [(⟨2, 1⟩ : S58)], 0, 0) := by kernel_rfl
theorem vupdate_is : views_Update.f 100 5 [(⟨2, 1⟩ : S58)] [(⟨7, 2⟩ : S58), (⟨8, 0⟩ : S58)] [8] 9 = some (9, [(⟨2, 1⟩ : S58), (⟨7, 2⟩ : S58)], 0, 0) := by kernel_rfl
theorem vsame_is : views_Same.f 100 5 [(⟨2, 1⟩ : S58)] 3 5 0 [⟨2, 3, 1, 9, vMsgB⟩] [⟨1, 4⟩] = some (true, 0, 0) := by kernel_rfl
theorem vseen1_is : posthouseref8_SameSeen.f 100 [(⟨2, 1⟩ : S58)] [(⟨2, 1⟩ : S58)] = some true := by kernel_rfl
theorem vseen2_is : posthouseref8_SameSeen.f 100 [(⟨2, 1⟩ : S58), (⟨7, 2⟩ : S58)] [(⟨2, 1⟩ : S58), (⟨7, 2⟩ : S58)] = some true := by kernel_rfl
theorem vval_is : views_Validate.f 5 [(⟨2, 1⟩ : S58)] = some (0, 0) := by kernel_rfl
def posthouselaw8_viewsExample.f (_k : Nat) : Option Bool := some true
theorem posthouselaw8_viewsExample.mono : ∀ k, LeO (posthouselaw8_viewsExample.f k) (posthouselaw8_viewsExample.f (k + 1)) := fun _ => LeO.refl _
theorem posthouselaw8_viewsExample.calls (k : Nat) (r : Bool) (w : World) (h : posthouselaw8_viewsExample.f k = some r) :
    Calls Tryd.prog 6 #[] w fun e w' => e = .returned (.bool r) ∧ Below w.heap.size w w' := by
  cases h
  exact viewsExample_any 100 3 5 0 [⟨2, 3, 1, 9, vMsgB⟩] [⟨1, 4⟩] 0 0 0 0 vthree_is vof_is vupdate_is vsame_is vseen1_is vseen2_is vval_is w


end Go.Proofs.YtjmnaipoccpbmaaDoor.P
