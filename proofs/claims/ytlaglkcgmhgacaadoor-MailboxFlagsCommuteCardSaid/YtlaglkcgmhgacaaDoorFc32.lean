/- Functions of this seat as Lean functions, and that the Go code comes to their answers: written by a program of this session's. -/
import Derived.Test.YtlaglkcgmhgacaaDoorFc31
import Derived.Test.YtlaglkcgmhgacaaDoorFc10
import Derived.Test.YtlaglkcgmhgacaaDoorFc25
namespace Go.Proofs.YtlaglkcgmhgacaaDoor.P
open Go.RowKit Go.Proofs.YtlaglkcgmhgacaaDoorW.PrintWords Go.Proofs.YtlaglkcgmhgacaaDoorW.PrintLast Go.Proofs.YtlaglkcgmhgacaaDoorW.PrintMore
attribute [local go_sem] max2_int min2_int max_two min_two max_three min_three max_four min_four   -- for this text's walks alone
set_option linter.unusedVariables false
set_option linter.unusedSimpArgs false

/-! ### posthouselaw8_steps: function 22 -/
theorem new_any (w : World) : Calls Tryd.prog 12 #[] w fun e w' => e = .returned (.agg #[.int .i64 1, .int .i64 1, .int .i64 0, .slice none 0 0, .slice none 0 0]) ∧ Below w.heap.size w w' := by
  go_enter Tryd.func12, Tryd.ntmps12
  go_wp2
  exact bodyPost_ret (v := .agg #[.int .i64 1, .int .i64 1, .int .i64 0, .slice none 0 0, .slice none 0 0]) (by simp [results, Tryd.results12, go_sem]) rfl ⟨rfl, by repeat (first | exact Below.refl _ _ | apply below_alloc)⟩
set_option maxHeartbeats 8000000 in
set_option maxRecDepth 100000 in
theorem steps_any (k : Nat) (fa fb : List (S77)) (ba bb : List Int) (p0 p1 p2 : Int) (p3 : List (S58)) (p4 : List (S61)) (q0 q1 q2 : Int) (q3 : List (S58)) (q4 : List (S61)) (r0 r1 r2 : Int) (r3 : List (S58)) (r4 : List (S61)) (s0 s1 s2 : Int) (s3 : List (S58)) (s4 : List (S61)) (la : posthouselaw8_letter.f (⟨#[97]⟩ : ByteArray) = some (fa, ba)) (lb : posthouselaw8_letter.f (⟨#[98]⟩ : ByteArray) = some (fb, bb)) (h1 : mailbox_Apply.f k 1 1 0 [] [] 1 0 0 0 0 fa ba = some (p0, p1, p2, p3, p4, 0, 0)) (h2 : mailbox_Apply.f k p0 p1 p2 p3 p4 1 0 0 0 9 fb bb = some (q0, q1, q2, q3, q4, 0, 0)) (h3 : mailbox_Apply.f k q0 q1 q2 q3 q4 2 2 1 0 0 [] [] = some (r0, r1, r2, r3, r4, 0, 0)) (h4 : mailbox_Apply.f k r0 r1 r2 r3 r4 3 1 0 0 0 [] [] = some (s0, s1, s2, s3, s4, 0, 0)) (w : World) :
    Calls Tryd.prog 22 #[] w fun e w' => ∃ v3_ v4_ : Value, e = .returned (.tuple #[.agg #[.int .i64 s0, .int .i64 s1, .int .i64 s2, v3_, v4_], .bool true]) ∧ Kd.V k58 58 w' w.heap.size (fun k_ => w.heap.size ≤ k_) v3_ s3 ∧ Kd.V k61 61 w' w.heap.size (fun k_ => w.heap.size ≤ k_) v4_ s4 ∧ Below w.heap.size w w' := by
  have LA := Aside0.mk la
  clear la
  have LB := Aside0.mk lb
  clear lb
  have H1 := Aside0.mk h1
  clear h1
  have H2 := Aside0.mk h2
  clear h2
  have H3 := Aside0.mk h3
  clear h3
  have H4 := Aside0.mk h4
  clear h4
  go_enter Tryd.func22, Tryd.ntmps22
  go_wp2_with fail
  have HT := Aside0.mk (blk_at (w := w) (.cells #[.int .i64 0, .int .i64 0, .int .i64 0, .slice none 0 0, .slice none 0 0] 25))
  have HB := Aside0.mk (below_alloc (Below.refl w.heap.size w) (.cells #[.int .i64 0, .int .i64 0, .int .i64 0, .slice none 0 0, .slice none 0 0] 25))
  refine (new_any _).mono ?_
  rintro e w1 ⟨rfl, hb⟩
  replace HT := Aside0.mk (blk_call HT.out hb)
  replace HB := Aside0.mk (below_step HB.out hb)
  clear hb
  go_wp2_with fail
  refine (posthouselaw8_letter.calls _ fa ba _ LA.out).mono ?_
  rintro e w2 ⟨v0_, v1_, rfl, hv0_, hv1_, hb⟩
  obtain ⟨aC, ac, rfl⟩ := Kd.V_slice hv0_
  obtain ⟨aD, ad, rfl⟩ := Kd.V_slice hv1_
  have HLa := Aside0.mk hv0_
  have HKa := Aside0.mk hv1_
  clear hv0_ hv1_
  replace HT := Aside0.mk (blk_call HT.out hb)
  replace HB := Aside0.mk (below_step HB.out hb)
  clear hb
  go_wp2_with fail
  refine (mailbox_Apply.calls k 1 1 0 none 0 [] none 0 [] 1 0 0 0 0 aC ac fa aD ad ba p0 p1 p2 p3 p4 0 0 _ (Kd.C_nil k58 _) (Nat.le_refl _) (Kd.C_nil k61 _) (Nat.le_refl _) (Kd.F_now (Kd.V_F HLa.out)) (Kd.V_at HLa.out).2.1 (Kd.F_now (Kd.V_F HKa.out)) (Kd.V_at HKa.out).2.1 H1.out).mono ?_
  rintro e w3 ⟨v3_, v4_, rfl, hv3_, hv4_, hb⟩
  obtain ⟨pA, pa, rfl⟩ := Kd.V_slice hv3_
  obtain ⟨pB, pb, rfl⟩ := Kd.V_slice hv4_
  have HpV := Aside0.mk hv3_
  have HpW := Aside0.mk hv4_
  clear hv3_ hv4_
  have hN := below_size hb
  replace HT := Aside0.mk (blk_call HT.out hb)
  replace HB := Aside0.mk (below_step HB.out hb)
  clear hb
  clear HLa HKa
  go_wp2_with fail
  have l1_t2 := blk_lt HT.out
  replace HT := Aside0.mk (blk_later HT.out (.cells #[.int .i64 p0, .int .i64 p1, .int .i64 p2, .slice pA p3.length pa, .slice pB p4.length pb] 25))
  replace HpV := Aside0.mk (Kd.V_alloc HpV.out (.cells #[.int .i64 p0, .int .i64 p1, .int .i64 p2, .slice pA p3.length pa, .slice pB p4.length pb] 25))
  replace HpW := Aside0.mk (Kd.V_alloc HpW.out (.cells #[.int .i64 p0, .int .i64 p1, .int .i64 p2, .slice pA p3.length pa, .slice pB p4.length pb] 25))
  replace HB := Aside0.mk (below_alloc HB.out (.cells #[.int .i64 p0, .int .i64 p1, .int .i64 p2, .slice pA p3.length pa, .slice pB p4.length pb] 25))
  have HM := Aside0.mk (blk_at (w := w3) (.cells #[.int .i64 p0, .int .i64 p1, .int .i64 p2, .slice pA p3.length pa, .slice pB p4.length pb] 25))
  have hs_t2 : (w3.alloc (.cells #[.int .i64 p0, .int .i64 p1, .int .i64 p2, .slice pA p3.length pa, .slice pB p4.length pb] 25)).heap.size = w3.heap.size + 1 := by simp
  generalize w3.alloc (.cells #[.int .i64 p0, .int .i64 p1, .int .i64 p2, .slice pA p3.length pa, .slice pB p4.length pb] 25) = W4 at *
  generalize w3.heap.size = t2 at *
  have l2_t21 := blk_lt HT.out
  have l3_t21 := blk_lt HM.out
  replace HT := Aside0.mk (blk_later HT.out (.cells #[.int .i64 0, .int .i64 0] 33))
  replace HM := Aside0.mk (blk_later HM.out (.cells #[.int .i64 0, .int .i64 0] 33))
  replace HpV := Aside0.mk (Kd.V_alloc HpV.out (.cells #[.int .i64 0, .int .i64 0] 33))
  replace HpW := Aside0.mk (Kd.V_alloc HpW.out (.cells #[.int .i64 0, .int .i64 0] 33))
  replace HB := Aside0.mk (below_alloc HB.out (.cells #[.int .i64 0, .int .i64 0] 33))
  have HE1 := Aside0.mk (blk_at (w := W4) (.cells #[.int .i64 0, .int .i64 0] 33))
  rw [hs_t2] at HE1 l2_t21 l3_t21
  clear hs_t2
  generalize W4.alloc (.cells #[.int .i64 0, .int .i64 0] 33) = W5 at *
  refine region_till 8 (fun _ => True) (fun w' : World => w'.cell? ⟨t2, 0, none⟩ = some (.int .i64 p0) ∧ w'.cell? ⟨t2, 1, none⟩ = some (.int .i64 p1) ∧ w'.cell? ⟨t2, 2, none⟩ = some (.int .i64 p2) ∧ w'.cell? ⟨t2, 3, none⟩ = some (.slice pA p3.length pa) ∧ w'.cell? ⟨t2, 4, none⟩ = some (.slice pB p4.length pb)) (by kernel_rfl) ⟨trivial, ⟨bc0 (blk_drew HM.out) 0, bc0 (blk_drew HM.out) 1, bc0 (blk_drew HM.out) 2, bc0 (blk_drew HM.out) 3, bc0 (blk_drew HM.out) 4⟩⟩ (fun hTU => ?_)
  replace HT := Aside0.mk (blk_drew HT.out)
  replace HM := Aside0.mk (blk_drew HM.out)
  replace HE1 := Aside0.mk (blk_drew HE1.out)
  replace HpV := Aside0.mk (Kd.V_drew HpV.out)
  replace HpW := Aside0.mk (Kd.V_drew HpW.out)
  replace HB := Aside0.mk (below_drew1 HB.out)
  generalize W5.drew = W6 at *
  refine till_takeD (i := 0) (v := ?_) (some 15) rfl rfl (by kernel_rfl) (by kernel_rfl) (by kernel_rfl) (by kernel_rfl) (fun _ _ _ h => h) (Or.inl ⟨by rfl, ?_⟩) (by assumption) ?_
  rotate_left
  · (intro w_ hS_; (try dsimp only at hS_); go_simp; try with_reducible rfl)
  try simp only [Act.put, List.setIfInBounds_toArray, List.set_cons_zero, List.set_cons_succ]
  refine till_ready (rs := [1, 7]) (by kernel_rfl) (by simp) ?_
  refine each_cons rfl (fun K hK => ?_) (each_cons rfl (fun K hK => ?_) (each_nil))
  · go_simp
    go_at_call 41
    refine (posthouselaw8_letter.calls _ fb bb _ LB.out).mono ?_
    rintro e wb ⟨v0_, v1_, rfl, hv0_, hv1_, hb⟩
    obtain ⟨bC, bc, rfl⟩ := Kd.V_slice hv0_
    obtain ⟨bD, bd, rfl⟩ := Kd.V_slice hv1_
    have HLb := Aside0.mk hv0_
    have HKb := Aside0.mk hv1_
    clear hv0_ hv1_
    replace HT := Aside0.mk (blk_call HT.out hb)
    replace HM := Aside0.mk (blk_call HM.out hb)
    replace HE1 := Aside0.mk (blk_call HE1.out hb)
    replace HpV := Aside0.mk (Kd.V_below HpV.out hb)
    replace HpW := Aside0.mk (Kd.V_below HpW.out hb)
    replace HB := Aside0.mk (below_step HB.out hb)
    clear hb
    refine hK.out _ _ trivial (fun _ _ => ⟨bc0 HM.out 0, bc0 HM.out 1, bc0 HM.out 2, bc0 HM.out 3, bc0 HM.out 4⟩) (fun hTV => ?_)
    clear hK K hTU
    have hTU := hTV (by kernel_rfl) (by decide)
    clear hTV
    try simp only [Act.put, List.setIfInBounds_toArray, List.set_cons_zero, List.set_cons_succ]
    refine till_freeD (i := 2) (v := ?_) (some 17) rfl rfl (by decide) (by kernel_rfl) (by kernel_rfl) (by kernel_rfl) (fun _ _ _ h => h) (Or.inl ⟨by rfl, ?_⟩) ⟨hTU.1, fun _ => hTU.2⟩ ?_
    rotate_left
    · (intro w_ _; go_simp; try with_reducible rfl)
    try simp only [Act.put, List.setIfInBounds_toArray, List.set_cons_zero, List.set_cons_succ]
    refine till_ready (rs := [3, 7]) (by kernel_rfl) (by simp) ?_
    refine each_cons rfl (fun K hK => ?_) (each_cons rfl (fun K hK => ?_) (each_nil))
    · go_simp
      go_at_call 6
      have l4_cq := blk_lt HT.out
      have l5_cq := blk_lt HM.out
      have l6_cq := blk_lt HE1.out
      refine (mailbox_Apply.calls k p0 p1 p2 pA pa p3 pB pb p4 1 0 0 0 9 bC bc fb bD bd bb q0 q1 q2 q3 q4 0 0 _ (Kd.F_now (Kd.V_F HpV.out)) (Kd.V_at HpV.out).2.1 (Kd.F_now (Kd.V_F HpW.out)) (Kd.V_at HpW.out).2.1 (Kd.F_now (Kd.V_F HLb.out)) (Kd.V_at HLb.out).2.1 (Kd.F_now (Kd.V_F HKb.out)) (Kd.V_at HKb.out).2.1 H2.out).mono ?_
      rintro e wq ⟨v3_, v4_, rfl, hv3_, hv4_, hb⟩
      obtain ⟨qA, qa, rfl⟩ := Kd.V_slice hv3_
      obtain ⟨qB, qb, rfl⟩ := Kd.V_slice hv4_
      have HqV := Aside0.mk hv3_
      have HqW := Aside0.mk hv4_
      clear hv3_ hv4_
      have hs_q := below_size hb
      replace HT := Aside0.mk (blk_call HT.out hb)
      replace HM := Aside0.mk (blk_call HM.out hb)
      replace HE1 := Aside0.mk (blk_call HE1.out hb)
      replace HpV := Aside0.mk (Kd.V_below HpV.out hb)
      replace HpW := Aside0.mk (Kd.V_below HpW.out hb)
      replace HB := Aside0.mk (below_step HB.out hb)
      clear hb
      clear HpV HpW
      clear HLb HKb
      refine hK.out _ _ trivial (fun _ _ => ⟨bc0 HM.out 0, bc0 HM.out 1, bc0 HM.out 2, bc0 HM.out 3, bc0 HM.out 4⟩) (fun hTV => ?_)
      clear hK K hTU
      have hTU := hTV (by kernel_rfl) (by decide)
      clear hTV
      try simp only [Act.put, List.setIfInBounds_toArray, List.set_cons_zero, List.set_cons_succ]
      refine till_freeD (i := 4) (v := ?_) (some 14) rfl rfl (by decide) (by kernel_rfl) (by kernel_rfl) (by kernel_rfl) (fun _ _ _ h => h) (Or.inl ⟨by rfl, ?_⟩) ⟨hTU.1, fun _ => hTU.2⟩ ?_
      rotate_left
      · (intro w_ _; go_simp; try with_reducible rfl)
      try simp only [Act.put, List.setIfInBounds_toArray, List.set_cons_zero, List.set_cons_succ]
      refine till_freeD (i := 5) (v := ?_) (some 19) rfl rfl (by decide) (by kernel_rfl) (by kernel_rfl) (by kernel_rfl) (fun _ _ _ h => h) (Or.inl ⟨by rfl, ?_⟩) ⟨hTU.1, fun _ => hTU.2⟩ ?_
      rotate_left
      · (intro w_ _; go_simp; try with_reducible rfl)
      try simp only [Act.put, List.setIfInBounds_toArray, List.set_cons_zero, List.set_cons_succ]
      refine till_freeD (i := 6) (v := ?_) (some 20) rfl rfl (by decide) (by kernel_rfl) (by kernel_rfl) (by kernel_rfl) (fun _ _ _ h => h) (Or.inl ⟨by rfl, ?_⟩) ⟨hTU.1, fun _ => hTU.2⟩ ?_
      rotate_left
      · (intro w_ _; go_simp; try with_reducible rfl)
      try simp only [Act.put, List.setIfInBounds_toArray, List.set_cons_zero, List.set_cons_succ]
      refine till_one (i := 7) (by kernel_rfl) rfl (fun K hK => ?_)
      go_simp
      have l7_t4 := blk_lt HT.out
      have l8_t4 := blk_lt HM.out
      have l9_t4 := blk_lt HE1.out
      replace HqV := Aside0.mk (Kd.V_mono (ok' := fun k_ => wb.heap.size ≤ k_ ∧ k_ ≠ wq.heap.size) (Kd.V_elderB HqV.out wq.heap.size (Nat.le_refl _)) (fun k_ hk_ => by have h1_ := hk_.1; have h2_ := hk_.2; omega))
      replace HqW := Aside0.mk (Kd.V_mono (ok' := fun k_ => wb.heap.size ≤ k_ ∧ k_ ≠ wq.heap.size) (Kd.V_elderB HqW.out wq.heap.size (Nat.le_refl _)) (fun k_ hk_ => by have h1_ := hk_.1; have h2_ := hk_.2; omega))
      replace HT := Aside0.mk (blk_later HT.out (.cells #[.int .i64 0, .int .i64 0] 33))
      replace HM := Aside0.mk (blk_later HM.out (.cells #[.int .i64 0, .int .i64 0] 33))
      replace HE1 := Aside0.mk (blk_later HE1.out (.cells #[.int .i64 0, .int .i64 0] 33))
      replace HqV := Aside0.mk (Kd.V_alloc HqV.out (.cells #[.int .i64 0, .int .i64 0] 33))
      replace HqW := Aside0.mk (Kd.V_alloc HqW.out (.cells #[.int .i64 0, .int .i64 0] 33))
      replace HB := Aside0.mk (below_alloc HB.out (.cells #[.int .i64 0, .int .i64 0] 33))
      have HE2 := Aside0.mk (blk_at (w := wq) (.cells #[.int .i64 0, .int .i64 0] 33))
      generalize wq.alloc (.cells #[.int .i64 0, .int .i64 0] 33) = Wt4 at *
      generalize wq.heap.size = t4 at *
      refine hK.out _ _ trivial (fun _ _ => ⟨bc0 HM.out 0, bc0 HM.out 1, bc0 HM.out 2, bc0 HM.out 3, bc0 HM.out 4⟩) (fun hTV => ?_)
      clear hK K hTU
      have hTU := hTV (by kernel_rfl) (by decide)
      clear hTV
      try simp only [Act.put, List.setIfInBounds_toArray, List.set_cons_zero, List.set_cons_succ]
      refine till_one (i := 8) (by kernel_rfl) rfl (fun K hK => ?_)
      have kHM := bc0 HM.out
      have fHM := bf0 HM.out
      have yHM := blk_lt HM.out
      go_simp
      clear kHM fHM yHM
      replace HT := Aside0.mk (blk_far (p := ⟨t2, 4, none⟩) (blk_far (p := ⟨t2, 3, none⟩) (blk_far (p := ⟨t2, 2, none⟩) (blk_far (p := ⟨t2, 1, none⟩) (blk_far (p := ⟨t2, 0, none⟩) HT.out (show w.heap.size ≠ t2 by omega) (.int .i64 q0)) (show w.heap.size ≠ t2 by omega) (.int .i64 q1)) (show w.heap.size ≠ t2 by omega) (.int .i64 q2)) (show w.heap.size ≠ t2 by omega) (.slice qA q3.length qa)) (show w.heap.size ≠ t2 by omega) (.slice qB q4.length qb))
      replace HM : Aside0 (((((((Wt4).setCell ⟨t2, 0, none⟩ (.int .i64 q0)).setCell ⟨t2, 1, none⟩ (.int .i64 q1)).setCell ⟨t2, 2, none⟩ (.int .i64 q2)).setCell ⟨t2, 3, none⟩ (.slice qA q3.length qa)).setCell ⟨t2, 4, none⟩ (.slice qB q4.length qb)).heap[t2]? = some (.cells #[(.int .i64 q0), (.int .i64 q1), (.int .i64 q2), (.slice qA q3.length qa), (.slice qB q4.length qb)] 25 (0, 0))) := Aside0.mk (blk_put (blk_put (blk_put (blk_put (blk_put HM.out 0 (.int .i64 q0) rfl) 1 (.int .i64 q1) rfl) 2 (.int .i64 q2) rfl) 3 (.slice qA q3.length qa) rfl) 4 (.slice qB q4.length qb) rfl)
      replace HE1 := Aside0.mk (blk_far (p := ⟨t2, 4, none⟩) (blk_far (p := ⟨t2, 3, none⟩) (blk_far (p := ⟨t2, 2, none⟩) (blk_far (p := ⟨t2, 1, none⟩) (blk_far (p := ⟨t2, 0, none⟩) HE1.out (show t2 + 1 ≠ t2 by omega) (.int .i64 q0)) (show t2 + 1 ≠ t2 by omega) (.int .i64 q1)) (show t2 + 1 ≠ t2 by omega) (.int .i64 q2)) (show t2 + 1 ≠ t2 by omega) (.slice qA q3.length qa)) (show t2 + 1 ≠ t2 by omega) (.slice qB q4.length qb))
      replace HE2 := Aside0.mk (blk_far (p := ⟨t2, 4, none⟩) (blk_far (p := ⟨t2, 3, none⟩) (blk_far (p := ⟨t2, 2, none⟩) (blk_far (p := ⟨t2, 1, none⟩) (blk_far (p := ⟨t2, 0, none⟩) HE2.out (show t4 ≠ t2 by omega) (.int .i64 q0)) (show t4 ≠ t2 by omega) (.int .i64 q1)) (show t4 ≠ t2 by omega) (.int .i64 q2)) (show t4 ≠ t2 by omega) (.slice qA q3.length qa)) (show t4 ≠ t2 by omega) (.slice qB q4.length qb))
      replace HqV := Aside0.mk (Kd.V_far (p := ⟨t2, 4, none⟩) (Kd.V_far (p := ⟨t2, 3, none⟩) (Kd.V_far (p := ⟨t2, 2, none⟩) (Kd.V_far (p := ⟨t2, 1, none⟩) (Kd.V_far (p := ⟨t2, 0, none⟩) HqV.out (fun k_ (hk_ : wb.heap.size ≤ k_ ∧ k_ ≠ t4) => by show k_ ≠ t2; omega) (.int .i64 q0)) (fun k_ (hk_ : wb.heap.size ≤ k_ ∧ k_ ≠ t4) => by show k_ ≠ t2; omega) (.int .i64 q1)) (fun k_ (hk_ : wb.heap.size ≤ k_ ∧ k_ ≠ t4) => by show k_ ≠ t2; omega) (.int .i64 q2)) (fun k_ (hk_ : wb.heap.size ≤ k_ ∧ k_ ≠ t4) => by show k_ ≠ t2; omega) (.slice qA q3.length qa)) (fun k_ (hk_ : wb.heap.size ≤ k_ ∧ k_ ≠ t4) => by show k_ ≠ t2; omega) (.slice qB q4.length qb))
      replace HqW := Aside0.mk (Kd.V_far (p := ⟨t2, 4, none⟩) (Kd.V_far (p := ⟨t2, 3, none⟩) (Kd.V_far (p := ⟨t2, 2, none⟩) (Kd.V_far (p := ⟨t2, 1, none⟩) (Kd.V_far (p := ⟨t2, 0, none⟩) HqW.out (fun k_ (hk_ : wb.heap.size ≤ k_ ∧ k_ ≠ t4) => by show k_ ≠ t2; omega) (.int .i64 q0)) (fun k_ (hk_ : wb.heap.size ≤ k_ ∧ k_ ≠ t4) => by show k_ ≠ t2; omega) (.int .i64 q1)) (fun k_ (hk_ : wb.heap.size ≤ k_ ∧ k_ ≠ t4) => by show k_ ≠ t2; omega) (.int .i64 q2)) (fun k_ (hk_ : wb.heap.size ≤ k_ ∧ k_ ≠ t4) => by show k_ ≠ t2; omega) (.slice qA q3.length qa)) (fun k_ (hk_ : wb.heap.size ≤ k_ ∧ k_ ≠ t4) => by show k_ ≠ t2; omega) (.slice qB q4.length qb))
      replace HB := Aside0.mk (below_set (j := 4) (v := (.slice qB q4.length qb)) (below_set (j := 3) (v := (.slice qA q3.length qa)) (below_set (j := 2) (v := (.int .i64 q2)) (below_set (j := 1) (v := (.int .i64 q1)) (below_set (j := 0) (v := (.int .i64 q0)) HB.out (show w.heap.size ≤ t2 by omega)) (show w.heap.size ≤ t2 by omega)) (show w.heap.size ≤ t2 by omega)) (show w.heap.size ≤ t2 by omega)) (show w.heap.size ≤ t2 by omega))
      generalize (((((Wt4).setCell ⟨t2, 0, none⟩ (.int .i64 q0)).setCell ⟨t2, 1, none⟩ (.int .i64 q1)).setCell ⟨t2, 2, none⟩ (.int .i64 q2)).setCell ⟨t2, 3, none⟩ (.slice qA q3.length qa)).setCell ⟨t2, 4, none⟩ (.slice qB q4.length qb) = Ws at *
      refine hK.out _ _ trivial (fun _ h => absurd rfl h) (fun _ => ?_)
      clear hK K hTU
      try simp only [Act.put, List.setIfInBounds_toArray, List.set_cons_zero, List.set_cons_succ]
      refine till_one (i := 9) (by kernel_rfl) rfl (fun K hK => ?_)
      have kHE2 := bc0 HE2.out
      have fHE2 := bf0 HE2.out
      have yHE2 := blk_lt HE2.out
      go_simp
      clear kHE2 fHE2 yHE2
      replace HT := Aside0.mk (blk_far (p := ⟨t4, 1, none⟩) (blk_far (p := ⟨t4, 0, none⟩) HT.out (show w.heap.size ≠ t4 by omega) (.int .i64 0)) (show w.heap.size ≠ t4 by omega) (.int .i64 0))
      replace HM := Aside0.mk (blk_far (p := ⟨t4, 1, none⟩) (blk_far (p := ⟨t4, 0, none⟩) HM.out (show t2 ≠ t4 by omega) (.int .i64 0)) (show t2 ≠ t4 by omega) (.int .i64 0))
      replace HE1 := Aside0.mk (blk_far (p := ⟨t4, 1, none⟩) (blk_far (p := ⟨t4, 0, none⟩) HE1.out (show t2 + 1 ≠ t4 by omega) (.int .i64 0)) (show t2 + 1 ≠ t4 by omega) (.int .i64 0))
      replace HE2 : Aside0 ((((Ws).setCell ⟨t4, 0, none⟩ (.int .i64 0)).setCell ⟨t4, 1, none⟩ (.int .i64 0)).heap[t4]? = some (.cells #[(.int .i64 0), (.int .i64 0)] 33 (0, 0))) := Aside0.mk (blk_put (blk_put HE2.out 0 (.int .i64 0) rfl) 1 (.int .i64 0) rfl)
      replace HqV := Aside0.mk (Kd.V_far (p := ⟨t4, 1, none⟩) (Kd.V_far (p := ⟨t4, 0, none⟩) HqV.out (fun k_ (hk_ : wb.heap.size ≤ k_ ∧ k_ ≠ t4) => by show k_ ≠ t4; omega) (.int .i64 0)) (fun k_ (hk_ : wb.heap.size ≤ k_ ∧ k_ ≠ t4) => by show k_ ≠ t4; omega) (.int .i64 0))
      replace HqW := Aside0.mk (Kd.V_far (p := ⟨t4, 1, none⟩) (Kd.V_far (p := ⟨t4, 0, none⟩) HqW.out (fun k_ (hk_ : wb.heap.size ≤ k_ ∧ k_ ≠ t4) => by show k_ ≠ t4; omega) (.int .i64 0)) (fun k_ (hk_ : wb.heap.size ≤ k_ ∧ k_ ≠ t4) => by show k_ ≠ t4; omega) (.int .i64 0))
      replace HB := Aside0.mk (below_set (j := 1) (v := (.int .i64 0)) (below_set (j := 0) (v := (.int .i64 0)) HB.out (show w.heap.size ≤ t4 by omega)) (show w.heap.size ≤ t4 by omega))
      generalize ((Ws).setCell ⟨t4, 0, none⟩ (.int .i64 0)).setCell ⟨t4, 1, none⟩ (.int .i64 0) = We at *
      refine hK.out _ _ trivial (fun h_ => by have h9_ := h_.symm.trans (show _ = true from by kernel_rfl); cases h9_) (fun _ => ?_)
      clear hK K
      try simp only [Act.put, List.setIfInBounds_toArray, List.set_cons_zero, List.set_cons_succ]
      refine till_done (by kernel_rfl) ?_ _
      have kHM := bc0 HM.out
      have fHM := bf0 HM.out
      have yHM := blk_lt HM.out
      go_wp2_with fail
      clear kHM fHM yHM
      have l10_cr := blk_lt HT.out
      have l11_cr := blk_lt HM.out
      have l12_cr := blk_lt HE1.out
      have l13_cr := blk_lt HE2.out
      refine (mailbox_Apply.calls k q0 q1 q2 qA qa q3 qB qb q4 2 2 1 0 0 none 0 [] none 0 [] r0 r1 r2 r3 r4 0 0 _ (Kd.F_now (Kd.V_F HqV.out)) (Kd.V_at HqV.out).2.1 (Kd.F_now (Kd.V_F HqW.out)) (Kd.V_at HqW.out).2.1 (Kd.C_nil k77 _) (Nat.le_refl _) (Kd.C_nil (Kd.int .u8) _) (Nat.le_refl _) H3.out).mono ?_
      rintro e wr ⟨v3_, v4_, rfl, hv3_, hv4_, hb⟩
      obtain ⟨rA, ra, rfl⟩ := Kd.V_slice hv3_
      obtain ⟨rB, rb, rfl⟩ := Kd.V_slice hv4_
      have HrV := Aside0.mk hv3_
      have HrW := Aside0.mk hv4_
      clear hv3_ hv4_
      have hs_r := below_size hb
      replace HT := Aside0.mk (blk_call HT.out hb)
      replace HM := Aside0.mk (blk_call HM.out hb)
      replace HE1 := Aside0.mk (blk_call HE1.out hb)
      replace HE2 := Aside0.mk (blk_call HE2.out hb)
      replace HqV := Aside0.mk (Kd.V_below HqV.out hb)
      replace HqW := Aside0.mk (Kd.V_below HqW.out hb)
      replace HB := Aside0.mk (below_step HB.out hb)
      clear hb
      clear HqV HqW
      have kHM := bc0 HM.out
      have fHM := bf0 HM.out
      have yHM := blk_lt HM.out
      go_wp2_with fail
      clear kHM fHM yHM
      replace HT := Aside0.mk (blk_far (p := ⟨t2, 4, none⟩) (blk_far (p := ⟨t2, 3, none⟩) (blk_far (p := ⟨t2, 2, none⟩) (blk_far (p := ⟨t2, 1, none⟩) (blk_far (p := ⟨t2, 0, none⟩) HT.out (show w.heap.size ≠ t2 by omega) (.int .i64 r0)) (show w.heap.size ≠ t2 by omega) (.int .i64 r1)) (show w.heap.size ≠ t2 by omega) (.int .i64 r2)) (show w.heap.size ≠ t2 by omega) (.slice rA r3.length ra)) (show w.heap.size ≠ t2 by omega) (.slice rB r4.length rb))
      replace HM : Aside0 (((((((wr).setCell ⟨t2, 0, none⟩ (.int .i64 r0)).setCell ⟨t2, 1, none⟩ (.int .i64 r1)).setCell ⟨t2, 2, none⟩ (.int .i64 r2)).setCell ⟨t2, 3, none⟩ (.slice rA r3.length ra)).setCell ⟨t2, 4, none⟩ (.slice rB r4.length rb)).heap[t2]? = some (.cells #[(.int .i64 r0), (.int .i64 r1), (.int .i64 r2), (.slice rA r3.length ra), (.slice rB r4.length rb)] 25 (0, 0))) := Aside0.mk (blk_put (blk_put (blk_put (blk_put (blk_put HM.out 0 (.int .i64 r0) rfl) 1 (.int .i64 r1) rfl) 2 (.int .i64 r2) rfl) 3 (.slice rA r3.length ra) rfl) 4 (.slice rB r4.length rb) rfl)
      replace HE1 := Aside0.mk (blk_far (p := ⟨t2, 4, none⟩) (blk_far (p := ⟨t2, 3, none⟩) (blk_far (p := ⟨t2, 2, none⟩) (blk_far (p := ⟨t2, 1, none⟩) (blk_far (p := ⟨t2, 0, none⟩) HE1.out (show t2 + 1 ≠ t2 by omega) (.int .i64 r0)) (show t2 + 1 ≠ t2 by omega) (.int .i64 r1)) (show t2 + 1 ≠ t2 by omega) (.int .i64 r2)) (show t2 + 1 ≠ t2 by omega) (.slice rA r3.length ra)) (show t2 + 1 ≠ t2 by omega) (.slice rB r4.length rb))
      replace HE2 := Aside0.mk (blk_far (p := ⟨t2, 4, none⟩) (blk_far (p := ⟨t2, 3, none⟩) (blk_far (p := ⟨t2, 2, none⟩) (blk_far (p := ⟨t2, 1, none⟩) (blk_far (p := ⟨t2, 0, none⟩) HE2.out (show t4 ≠ t2 by omega) (.int .i64 r0)) (show t4 ≠ t2 by omega) (.int .i64 r1)) (show t4 ≠ t2 by omega) (.int .i64 r2)) (show t4 ≠ t2 by omega) (.slice rA r3.length ra)) (show t4 ≠ t2 by omega) (.slice rB r4.length rb))
      replace HrV := Aside0.mk (Kd.V_far (p := ⟨t2, 4, none⟩) (Kd.V_far (p := ⟨t2, 3, none⟩) (Kd.V_far (p := ⟨t2, 2, none⟩) (Kd.V_far (p := ⟨t2, 1, none⟩) (Kd.V_far (p := ⟨t2, 0, none⟩) HrV.out (fun k_ (hk_ : We.heap.size ≤ k_) => by show k_ ≠ t2; omega) (.int .i64 r0)) (fun k_ (hk_ : We.heap.size ≤ k_) => by show k_ ≠ t2; omega) (.int .i64 r1)) (fun k_ (hk_ : We.heap.size ≤ k_) => by show k_ ≠ t2; omega) (.int .i64 r2)) (fun k_ (hk_ : We.heap.size ≤ k_) => by show k_ ≠ t2; omega) (.slice rA r3.length ra)) (fun k_ (hk_ : We.heap.size ≤ k_) => by show k_ ≠ t2; omega) (.slice rB r4.length rb))
      replace HrW := Aside0.mk (Kd.V_far (p := ⟨t2, 4, none⟩) (Kd.V_far (p := ⟨t2, 3, none⟩) (Kd.V_far (p := ⟨t2, 2, none⟩) (Kd.V_far (p := ⟨t2, 1, none⟩) (Kd.V_far (p := ⟨t2, 0, none⟩) HrW.out (fun k_ (hk_ : We.heap.size ≤ k_) => by show k_ ≠ t2; omega) (.int .i64 r0)) (fun k_ (hk_ : We.heap.size ≤ k_) => by show k_ ≠ t2; omega) (.int .i64 r1)) (fun k_ (hk_ : We.heap.size ≤ k_) => by show k_ ≠ t2; omega) (.int .i64 r2)) (fun k_ (hk_ : We.heap.size ≤ k_) => by show k_ ≠ t2; omega) (.slice rA r3.length ra)) (fun k_ (hk_ : We.heap.size ≤ k_) => by show k_ ≠ t2; omega) (.slice rB r4.length rb))
      replace HB := Aside0.mk (below_set (j := 4) (v := (.slice rB r4.length rb)) (below_set (j := 3) (v := (.slice rA r3.length ra)) (below_set (j := 2) (v := (.int .i64 r2)) (below_set (j := 1) (v := (.int .i64 r1)) (below_set (j := 0) (v := (.int .i64 r0)) HB.out (show w.heap.size ≤ t2 by omega)) (show w.heap.size ≤ t2 by omega)) (show w.heap.size ≤ t2 by omega)) (show w.heap.size ≤ t2 by omega)) (show w.heap.size ≤ t2 by omega))
      have hp_r : ((((((wr).setCell ⟨t2, 0, none⟩ (.int .i64 r0)).setCell ⟨t2, 1, none⟩ (.int .i64 r1)).setCell ⟨t2, 2, none⟩ (.int .i64 r2)).setCell ⟨t2, 3, none⟩ (.slice rA r3.length ra)).setCell ⟨t2, 4, none⟩ (.slice rB r4.length rb)).heap.size = wr.heap.size := by simp
      generalize (((((wr).setCell ⟨t2, 0, none⟩ (.int .i64 r0)).setCell ⟨t2, 1, none⟩ (.int .i64 r1)).setCell ⟨t2, 2, none⟩ (.int .i64 r2)).setCell ⟨t2, 3, none⟩ (.slice rA r3.length ra)).setCell ⟨t2, 4, none⟩ (.slice rB r4.length rb) = Wmr at *
      have l14_t5 := blk_lt HT.out
      have l15_t5 := blk_lt HM.out
      have l16_t5 := blk_lt HE1.out
      have l17_t5 := blk_lt HE2.out
      replace HT := Aside0.mk (blk_later HT.out (.cells #[.int .i64 0, .int .i64 0] 33))
      replace HM := Aside0.mk (blk_later HM.out (.cells #[.int .i64 0, .int .i64 0] 33))
      replace HE1 := Aside0.mk (blk_later HE1.out (.cells #[.int .i64 0, .int .i64 0] 33))
      replace HE2 := Aside0.mk (blk_later HE2.out (.cells #[.int .i64 0, .int .i64 0] 33))
      replace HrV := Aside0.mk (Kd.V_alloc HrV.out (.cells #[.int .i64 0, .int .i64 0] 33))
      replace HrW := Aside0.mk (Kd.V_alloc HrW.out (.cells #[.int .i64 0, .int .i64 0] 33))
      replace HB := Aside0.mk (below_alloc HB.out (.cells #[.int .i64 0, .int .i64 0] 33))
      have HE3 := Aside0.mk (blk_at (w := Wmr) (.cells #[.int .i64 0, .int .i64 0] 33))
      rw [hp_r] at HE3 l14_t5 l15_t5 l16_t5 l17_t5
      clear hp_r
      generalize Wmr.alloc (.cells #[.int .i64 0, .int .i64 0] 33) = Wnr at *
      generalize wr.heap.size = t5 at *
      have kHM := bc0 HM.out
      have fHM := bf0 HM.out
      have yHM := blk_lt HM.out
      go_wp2_with fail
      clear kHM fHM yHM
      have l18_cs := blk_lt HT.out
      have l19_cs := blk_lt HM.out
      have l20_cs := blk_lt HE1.out
      have l21_cs := blk_lt HE2.out
      have l22_cs := blk_lt HE3.out
      refine (mailbox_Apply.calls k r0 r1 r2 rA ra r3 rB rb r4 3 1 0 0 0 none 0 [] none 0 [] s0 s1 s2 s3 s4 0 0 _ (Kd.F_now (Kd.V_F HrV.out)) (Kd.V_at HrV.out).2.1 (Kd.F_now (Kd.V_F HrW.out)) (Kd.V_at HrW.out).2.1 (Kd.C_nil k77 _) (Nat.le_refl _) (Kd.C_nil (Kd.int .u8) _) (Nat.le_refl _) H4.out).mono ?_
      rintro e ws ⟨v3_, v4_, rfl, hv3_, hv4_, hb⟩
      obtain ⟨sA, sa, rfl⟩ := Kd.V_slice hv3_
      obtain ⟨sB, sb, rfl⟩ := Kd.V_slice hv4_
      have HsV := Aside0.mk hv3_
      have HsW := Aside0.mk hv4_
      clear hv3_ hv4_
      have hs_s := below_size hb
      replace HT := Aside0.mk (blk_call HT.out hb)
      replace HM := Aside0.mk (blk_call HM.out hb)
      replace HE1 := Aside0.mk (blk_call HE1.out hb)
      replace HE2 := Aside0.mk (blk_call HE2.out hb)
      replace HE3 := Aside0.mk (blk_call HE3.out hb)
      replace HrV := Aside0.mk (Kd.V_below HrV.out hb)
      replace HrW := Aside0.mk (Kd.V_below HrW.out hb)
      replace HB := Aside0.mk (below_step HB.out hb)
      clear hb
      clear HrV HrW
      have kHM := bc0 HM.out
      have fHM := bf0 HM.out
      have yHM := blk_lt HM.out
      go_wp2
      clear kHM fHM yHM
      replace HT := Aside0.mk (blk_far (p := ⟨t2, 4, none⟩) (blk_far (p := ⟨t2, 3, none⟩) (blk_far (p := ⟨t2, 2, none⟩) (blk_far (p := ⟨t2, 1, none⟩) (blk_far (p := ⟨t2, 0, none⟩) HT.out (show w.heap.size ≠ t2 by omega) (.int .i64 s0)) (show w.heap.size ≠ t2 by omega) (.int .i64 s1)) (show w.heap.size ≠ t2 by omega) (.int .i64 s2)) (show w.heap.size ≠ t2 by omega) (.slice sA s3.length sa)) (show w.heap.size ≠ t2 by omega) (.slice sB s4.length sb))
      replace HM : Aside0 (((((((ws).setCell ⟨t2, 0, none⟩ (.int .i64 s0)).setCell ⟨t2, 1, none⟩ (.int .i64 s1)).setCell ⟨t2, 2, none⟩ (.int .i64 s2)).setCell ⟨t2, 3, none⟩ (.slice sA s3.length sa)).setCell ⟨t2, 4, none⟩ (.slice sB s4.length sb)).heap[t2]? = some (.cells #[(.int .i64 s0), (.int .i64 s1), (.int .i64 s2), (.slice sA s3.length sa), (.slice sB s4.length sb)] 25 (0, 0))) := Aside0.mk (blk_put (blk_put (blk_put (blk_put (blk_put HM.out 0 (.int .i64 s0) rfl) 1 (.int .i64 s1) rfl) 2 (.int .i64 s2) rfl) 3 (.slice sA s3.length sa) rfl) 4 (.slice sB s4.length sb) rfl)
      replace HE1 := Aside0.mk (blk_far (p := ⟨t2, 4, none⟩) (blk_far (p := ⟨t2, 3, none⟩) (blk_far (p := ⟨t2, 2, none⟩) (blk_far (p := ⟨t2, 1, none⟩) (blk_far (p := ⟨t2, 0, none⟩) HE1.out (show t2 + 1 ≠ t2 by omega) (.int .i64 s0)) (show t2 + 1 ≠ t2 by omega) (.int .i64 s1)) (show t2 + 1 ≠ t2 by omega) (.int .i64 s2)) (show t2 + 1 ≠ t2 by omega) (.slice sA s3.length sa)) (show t2 + 1 ≠ t2 by omega) (.slice sB s4.length sb))
      replace HE2 := Aside0.mk (blk_far (p := ⟨t2, 4, none⟩) (blk_far (p := ⟨t2, 3, none⟩) (blk_far (p := ⟨t2, 2, none⟩) (blk_far (p := ⟨t2, 1, none⟩) (blk_far (p := ⟨t2, 0, none⟩) HE2.out (show t4 ≠ t2 by omega) (.int .i64 s0)) (show t4 ≠ t2 by omega) (.int .i64 s1)) (show t4 ≠ t2 by omega) (.int .i64 s2)) (show t4 ≠ t2 by omega) (.slice sA s3.length sa)) (show t4 ≠ t2 by omega) (.slice sB s4.length sb))
      replace HE3 := Aside0.mk (blk_far (p := ⟨t2, 4, none⟩) (blk_far (p := ⟨t2, 3, none⟩) (blk_far (p := ⟨t2, 2, none⟩) (blk_far (p := ⟨t2, 1, none⟩) (blk_far (p := ⟨t2, 0, none⟩) HE3.out (show t5 ≠ t2 by omega) (.int .i64 s0)) (show t5 ≠ t2 by omega) (.int .i64 s1)) (show t5 ≠ t2 by omega) (.int .i64 s2)) (show t5 ≠ t2 by omega) (.slice sA s3.length sa)) (show t5 ≠ t2 by omega) (.slice sB s4.length sb))
      replace HsV := Aside0.mk (Kd.V_far (p := ⟨t2, 4, none⟩) (Kd.V_far (p := ⟨t2, 3, none⟩) (Kd.V_far (p := ⟨t2, 2, none⟩) (Kd.V_far (p := ⟨t2, 1, none⟩) (Kd.V_far (p := ⟨t2, 0, none⟩) HsV.out (fun k_ (hk_ : Wnr.heap.size ≤ k_) => by show k_ ≠ t2; omega) (.int .i64 s0)) (fun k_ (hk_ : Wnr.heap.size ≤ k_) => by show k_ ≠ t2; omega) (.int .i64 s1)) (fun k_ (hk_ : Wnr.heap.size ≤ k_) => by show k_ ≠ t2; omega) (.int .i64 s2)) (fun k_ (hk_ : Wnr.heap.size ≤ k_) => by show k_ ≠ t2; omega) (.slice sA s3.length sa)) (fun k_ (hk_ : Wnr.heap.size ≤ k_) => by show k_ ≠ t2; omega) (.slice sB s4.length sb))
      replace HsW := Aside0.mk (Kd.V_far (p := ⟨t2, 4, none⟩) (Kd.V_far (p := ⟨t2, 3, none⟩) (Kd.V_far (p := ⟨t2, 2, none⟩) (Kd.V_far (p := ⟨t2, 1, none⟩) (Kd.V_far (p := ⟨t2, 0, none⟩) HsW.out (fun k_ (hk_ : Wnr.heap.size ≤ k_) => by show k_ ≠ t2; omega) (.int .i64 s0)) (fun k_ (hk_ : Wnr.heap.size ≤ k_) => by show k_ ≠ t2; omega) (.int .i64 s1)) (fun k_ (hk_ : Wnr.heap.size ≤ k_) => by show k_ ≠ t2; omega) (.int .i64 s2)) (fun k_ (hk_ : Wnr.heap.size ≤ k_) => by show k_ ≠ t2; omega) (.slice sA s3.length sa)) (fun k_ (hk_ : Wnr.heap.size ≤ k_) => by show k_ ≠ t2; omega) (.slice sB s4.length sb))
      replace HB := Aside0.mk (below_set (j := 4) (v := (.slice sB s4.length sb)) (below_set (j := 3) (v := (.slice sA s3.length sa)) (below_set (j := 2) (v := (.int .i64 s2)) (below_set (j := 1) (v := (.int .i64 s1)) (below_set (j := 0) (v := (.int .i64 s0)) HB.out (show w.heap.size ≤ t2 by omega)) (show w.heap.size ≤ t2 by omega)) (show w.heap.size ≤ t2 by omega)) (show w.heap.size ≤ t2 by omega)) (show w.heap.size ≤ t2 by omega))
      have hp_s : ((((((ws).setCell ⟨t2, 0, none⟩ (.int .i64 s0)).setCell ⟨t2, 1, none⟩ (.int .i64 s1)).setCell ⟨t2, 2, none⟩ (.int .i64 s2)).setCell ⟨t2, 3, none⟩ (.slice sA s3.length sa)).setCell ⟨t2, 4, none⟩ (.slice sB s4.length sb)).heap.size = ws.heap.size := by simp
      generalize (((((ws).setCell ⟨t2, 0, none⟩ (.int .i64 s0)).setCell ⟨t2, 1, none⟩ (.int .i64 s1)).setCell ⟨t2, 2, none⟩ (.int .i64 s2)).setCell ⟨t2, 3, none⟩ (.slice sA s3.length sa)).setCell ⟨t2, 4, none⟩ (.slice sB s4.length sb) = Wms at *
      have l23_t6 := blk_lt HT.out
      have l24_t6 := blk_lt HM.out
      have l25_t6 := blk_lt HE1.out
      have l26_t6 := blk_lt HE2.out
      have l27_t6 := blk_lt HE3.out
      replace HT := Aside0.mk (blk_later HT.out (.cells #[.int .i64 0, .int .i64 0] 33))
      replace HM := Aside0.mk (blk_later HM.out (.cells #[.int .i64 0, .int .i64 0] 33))
      replace HE1 := Aside0.mk (blk_later HE1.out (.cells #[.int .i64 0, .int .i64 0] 33))
      replace HE2 := Aside0.mk (blk_later HE2.out (.cells #[.int .i64 0, .int .i64 0] 33))
      replace HE3 := Aside0.mk (blk_later HE3.out (.cells #[.int .i64 0, .int .i64 0] 33))
      replace HsV := Aside0.mk (Kd.V_alloc HsV.out (.cells #[.int .i64 0, .int .i64 0] 33))
      replace HsW := Aside0.mk (Kd.V_alloc HsW.out (.cells #[.int .i64 0, .int .i64 0] 33))
      replace HB := Aside0.mk (below_alloc HB.out (.cells #[.int .i64 0, .int .i64 0] 33))
      have HE4 := Aside0.mk (blk_at (w := Wms) (.cells #[.int .i64 0, .int .i64 0] 33))
      rw [hp_s] at HE4 l23_t6 l24_t6 l25_t6 l26_t6 l27_t6
      clear hp_s
      generalize Wms.alloc (.cells #[.int .i64 0, .int .i64 0] 33) = Wns at *
      generalize ws.heap.size = t6 at *
      refine region_till 20 (fun _ => True) (fun w' : World => w'.cell? ⟨t2, 0, none⟩ = some (.int .i64 s0) ∧ w'.cell? ⟨t2, 1, none⟩ = some (.int .i64 s1) ∧ w'.cell? ⟨t2, 2, none⟩ = some (.int .i64 s2) ∧ w'.cell? ⟨t2, 3, none⟩ = some (.slice sA s3.length sa) ∧ w'.cell? ⟨t2, 4, none⟩ = some (.slice sB s4.length sb) ∧ w'.cell? ⟨t2 + 1, 0, none⟩ = some (.int .i64 0) ∧ w'.cell? ⟨t4, 0, none⟩ = some (.int .i64 0) ∧ w'.cell? ⟨t5, 0, none⟩ = some (.int .i64 0) ∧ w'.cell? ⟨t6, 0, none⟩ = some (.int .i64 0)) (by kernel_rfl) ⟨trivial, ⟨bc0 (blk_drew HM.out) 0, bc0 (blk_drew HM.out) 1, bc0 (blk_drew HM.out) 2, bc0 (blk_drew HM.out) 3, bc0 (blk_drew HM.out) 4, bc0 (blk_drew HE1.out) 0, bc0 (blk_drew HE2.out) 0, bc0 (blk_drew HE3.out) 0, bc0 (blk_drew HE4.out) 0⟩⟩ (fun hTU => ?_)
      replace HT := Aside0.mk (blk_drew HT.out)
      replace HM := Aside0.mk (blk_drew HM.out)
      replace HE1 := Aside0.mk (blk_drew HE1.out)
      replace HE2 := Aside0.mk (blk_drew HE2.out)
      replace HE3 := Aside0.mk (blk_drew HE3.out)
      replace HE4 := Aside0.mk (blk_drew HE4.out)
      replace HsV := Aside0.mk (Kd.V_drew HsV.out)
      replace HsW := Aside0.mk (Kd.V_drew HsW.out)
      replace HB := Aside0.mk (below_drew1 HB.out)
      generalize Wns.drew = W7 at *
      refine till_takeD (i := 0) (v := ?_) (some 33) rfl rfl (by kernel_rfl) (by kernel_rfl) (by kernel_rfl) (by kernel_rfl) (fun _ _ _ h => h) (Or.inl ⟨by rfl, ?_⟩) (by assumption) ?_
      rotate_left
      · (intro w_ hS_; (try dsimp only at hS_); go_simp; try with_reducible rfl)
      try simp only [Act.put, List.setIfInBounds_toArray, List.set_cons_zero, List.set_cons_succ]
      refine till_takeD (i := 1) (v := ?_) (some 34) rfl rfl (by kernel_rfl) (by kernel_rfl) (by kernel_rfl) (by kernel_rfl) (fun _ _ _ h => h) (Or.inl ⟨by rfl, ?_⟩) (by assumption) ?_
      rotate_left
      · (intro w_ hS_; (try dsimp only at hS_); go_simp; try with_reducible rfl)
      try simp only [Act.put, List.setIfInBounds_toArray, List.set_cons_zero, List.set_cons_succ]
      refine till_takeD (i := 2) (v := ?_) (some 35) rfl rfl (by kernel_rfl) (by kernel_rfl) (by kernel_rfl) (by kernel_rfl) (fun _ _ _ h => h) (Or.inl ⟨by rfl, ?_⟩) (by assumption) ?_
      rotate_left
      · (intro w_ hS_; (try dsimp only at hS_); go_simp; try with_reducible rfl)
      try simp only [Act.put, List.setIfInBounds_toArray, List.set_cons_zero, List.set_cons_succ]
      refine till_takeD (i := 3) (v := ?_) (some 36) rfl rfl (by kernel_rfl) (by kernel_rfl) (by kernel_rfl) (by kernel_rfl) (fun _ _ _ h => h) (Or.inl ⟨by rfl, ?_⟩) (by assumption) ?_
      rotate_left
      · (intro w_ hS_; (try dsimp only at hS_); go_simp; try with_reducible rfl)
      try simp only [Act.put, List.setIfInBounds_toArray, List.set_cons_zero, List.set_cons_succ]
      refine till_takeD (i := 4) (v := ?_) (some 37) rfl rfl (by kernel_rfl) (by kernel_rfl) (by kernel_rfl) (by kernel_rfl) (fun _ _ _ h => h) (Or.inl ⟨by rfl, ?_⟩) (by assumption) ?_
      rotate_left
      · (intro w_ hS_; (try dsimp only at hS_); go_simp; try with_reducible rfl)
      try simp only [Act.put, List.setIfInBounds_toArray, List.set_cons_zero, List.set_cons_succ]
      refine till_takeD (i := 5) (v := ?_) (some 38) rfl rfl (by kernel_rfl) (by kernel_rfl) (by kernel_rfl) (by kernel_rfl) (fun _ _ _ h => h) (Or.inl ⟨by rfl, ?_⟩) (by assumption) ?_
      rotate_left
      · (intro w_ hS_; (try dsimp only at hS_); go_simp; try with_reducible rfl)
      try simp only [Act.put, List.setIfInBounds_toArray, List.set_cons_zero, List.set_cons_succ]
      refine till_takeD (i := 6) (v := ?_) (some 39) rfl rfl (by kernel_rfl) (by kernel_rfl) (by kernel_rfl) (by kernel_rfl) (fun _ _ _ h => h) (Or.inl ⟨by rfl, ?_⟩) (by assumption) ?_
      rotate_left
      · (intro w_ hS_; (try dsimp only at hS_); go_simp; try with_reducible rfl)
      try simp only [Act.put, List.setIfInBounds_toArray, List.set_cons_zero, List.set_cons_succ]
      refine till_takeD (i := 7) (v := ?_) (some 40) rfl rfl (by kernel_rfl) (by kernel_rfl) (by kernel_rfl) (by kernel_rfl) (fun _ _ _ h => h) (Or.inl ⟨by rfl, ?_⟩) (by assumption) ?_
      rotate_left
      · (intro w_ hS_; (try dsimp only at hS_); go_simp; try with_reducible rfl)
      try simp only [Act.put, List.setIfInBounds_toArray, List.set_cons_zero, List.set_cons_succ]
      refine till_takeD (i := 8) (v := ?_) (some 41) rfl rfl (by kernel_rfl) (by kernel_rfl) (by kernel_rfl) (by kernel_rfl) (fun _ _ _ h => h) (Or.inl ⟨by rfl, ?_⟩) (by assumption) ?_
      rotate_left
      · (intro w_ hS_; (try dsimp only at hS_); go_simp; try with_reducible rfl)
      try simp only [Act.put, List.setIfInBounds_toArray, List.set_cons_zero, List.set_cons_succ]
      refine till_takeD (i := 9) (v := ?_) (some 42) rfl rfl (by kernel_rfl) (by kernel_rfl) (by kernel_rfl) (by kernel_rfl) (fun _ _ _ h => h) (Or.inl ⟨by rfl, ?_⟩) (by assumption) ?_
      rotate_left
      · (intro w_ hS_; (try dsimp only at hS_); go_simp; try with_reducible rfl)
      try simp only [Act.put, List.setIfInBounds_toArray, List.set_cons_zero, List.set_cons_succ]
      refine till_takeD (i := 10) (v := ?_) (some 43) rfl rfl (by kernel_rfl) (by kernel_rfl) (by kernel_rfl) (by kernel_rfl) (fun _ _ _ h => h) (Or.inl ⟨by rfl, ?_⟩) (by assumption) ?_
      rotate_left
      · (intro w_ hS_; (try dsimp only at hS_); go_simp; try with_reducible rfl)
      try simp only [Act.put, List.setIfInBounds_toArray, List.set_cons_zero, List.set_cons_succ]
      refine till_takeD (i := 11) (v := ?_) (some 44) rfl rfl (by kernel_rfl) (by kernel_rfl) (by kernel_rfl) (by kernel_rfl) (fun _ _ _ h => h) (Or.inl ⟨by rfl, ?_⟩) (by assumption) ?_
      rotate_left
      · (intro w_ hS_; (try dsimp only at hS_); go_simp; try with_reducible rfl)
      try simp only [Act.put, List.setIfInBounds_toArray, List.set_cons_zero, List.set_cons_succ]
      refine till_takeD (i := 12) (v := ?_) (some 45) rfl rfl (by kernel_rfl) (by kernel_rfl) (by kernel_rfl) (by kernel_rfl) (fun _ _ _ h => h) (Or.inl ⟨by rfl, ?_⟩) (by assumption) ?_
      rotate_left
      · (intro w_ hS_; (try dsimp only at hS_); go_simp; try with_reducible rfl)
      try simp only [Act.put, List.setIfInBounds_toArray, List.set_cons_zero, List.set_cons_succ]
      refine till_takeD (i := 13) (v := ?_) (some 46) rfl rfl (by kernel_rfl) (by kernel_rfl) (by kernel_rfl) (by kernel_rfl) (fun _ _ _ h => h) (Or.inl ⟨by rfl, ?_⟩) (by assumption) ?_
      rotate_left
      · (intro w_ hS_; (try dsimp only at hS_); go_simp; try with_reducible rfl)
      try simp only [Act.put, List.setIfInBounds_toArray, List.set_cons_zero, List.set_cons_succ]
      refine till_takeD (i := 14) (v := ?_) (some 47) rfl rfl (by kernel_rfl) (by kernel_rfl) (by kernel_rfl) (by kernel_rfl) (fun _ _ _ h => h) (Or.inl ⟨by rfl, ?_⟩) (by assumption) ?_
      rotate_left
      · (intro w_ hS_; (try dsimp only at hS_); go_simp; try with_reducible rfl)
      try simp only [Act.put, List.setIfInBounds_toArray, List.set_cons_zero, List.set_cons_succ]
      refine till_takeD (i := 15) (v := ?_) (some 48) rfl rfl (by kernel_rfl) (by kernel_rfl) (by kernel_rfl) (by kernel_rfl) (fun _ _ _ h => h) (Or.inl ⟨by rfl, ?_⟩) (by assumption) ?_
      rotate_left
      · (intro w_ hS_; (try dsimp only at hS_); go_simp; try with_reducible rfl)
      try simp only [Act.put, List.setIfInBounds_toArray, List.set_cons_zero, List.set_cons_succ]
      refine till_takeD (i := 16) (v := ?_) (some 49) rfl rfl (by kernel_rfl) (by kernel_rfl) (by kernel_rfl) (by kernel_rfl) (fun _ _ _ h => h) (Or.inl ⟨by rfl, ?_⟩) (by assumption) ?_
      rotate_left
      · (intro w_ hS_; (try dsimp only at hS_); go_simp; try with_reducible rfl)
      try simp only [Act.put, List.setIfInBounds_toArray, List.set_cons_zero, List.set_cons_succ]
      refine till_takeD (i := 17) (v := ?_) (some 50) rfl rfl (by kernel_rfl) (by kernel_rfl) (by kernel_rfl) (by kernel_rfl) (fun _ _ _ h => h) (Or.inl ⟨by rfl, ?_⟩) (by assumption) ?_
      rotate_left
      · (intro w_ hS_; (try dsimp only at hS_); go_simp; try with_reducible rfl)
      try simp only [Act.put, List.setIfInBounds_toArray, List.set_cons_zero, List.set_cons_succ]
      refine till_takeD (i := 18) (v := ?_) (some 51) rfl rfl (by kernel_rfl) (by kernel_rfl) (by kernel_rfl) (by kernel_rfl) (fun _ _ _ h => h) (Or.inl ⟨by rfl, ?_⟩) (by assumption) ?_
      rotate_left
      · (intro w_ hS_; (try dsimp only at hS_); go_simp; try with_reducible rfl)
      try simp only [Act.put, List.setIfInBounds_toArray, List.set_cons_zero, List.set_cons_succ]
      refine till_one (i := 19) (by kernel_rfl) rfl (fun K hK => ?_)
      have kHT := bc0 HT.out
      have fHT := bf0 HT.out
      have yHT := blk_lt HT.out
      go_simp
      clear kHT fHT yHT
      have l28_end := blk_lt HT.out
      have l29_end := blk_lt HM.out
      have l30_end := blk_lt HE1.out
      have l31_end := blk_lt HE2.out
      have l32_end := blk_lt HE3.out
      have l33_end := blk_lt HE4.out
      replace HT : Aside0 (((((((W7).setCell ⟨w.heap.size, 0, none⟩ (.int .i64 s0)).setCell ⟨w.heap.size, 1, none⟩ (.int .i64 s1)).setCell ⟨w.heap.size, 2, none⟩ (.int .i64 s2)).setCell ⟨w.heap.size, 3, none⟩ (.slice sA s3.length sa)).setCell ⟨w.heap.size, 4, none⟩ (.slice sB s4.length sb)).heap[w.heap.size]? = some (.cells #[(.int .i64 s0), (.int .i64 s1), (.int .i64 s2), (.slice sA s3.length sa), (.slice sB s4.length sb)] 25 (0, 0))) := Aside0.mk (blk_put (blk_put (blk_put (blk_put (blk_put HT.out 0 (.int .i64 s0) rfl) 1 (.int .i64 s1) rfl) 2 (.int .i64 s2) rfl) 3 (.slice sA s3.length sa) rfl) 4 (.slice sB s4.length sb) rfl)
      replace HM := Aside0.mk (blk_far (p := ⟨w.heap.size, 4, none⟩) (blk_far (p := ⟨w.heap.size, 3, none⟩) (blk_far (p := ⟨w.heap.size, 2, none⟩) (blk_far (p := ⟨w.heap.size, 1, none⟩) (blk_far (p := ⟨w.heap.size, 0, none⟩) HM.out (show t2 ≠ w.heap.size by omega) (.int .i64 s0)) (show t2 ≠ w.heap.size by omega) (.int .i64 s1)) (show t2 ≠ w.heap.size by omega) (.int .i64 s2)) (show t2 ≠ w.heap.size by omega) (.slice sA s3.length sa)) (show t2 ≠ w.heap.size by omega) (.slice sB s4.length sb))
      replace HE1 := Aside0.mk (blk_far (p := ⟨w.heap.size, 4, none⟩) (blk_far (p := ⟨w.heap.size, 3, none⟩) (blk_far (p := ⟨w.heap.size, 2, none⟩) (blk_far (p := ⟨w.heap.size, 1, none⟩) (blk_far (p := ⟨w.heap.size, 0, none⟩) HE1.out (show t2 + 1 ≠ w.heap.size by omega) (.int .i64 s0)) (show t2 + 1 ≠ w.heap.size by omega) (.int .i64 s1)) (show t2 + 1 ≠ w.heap.size by omega) (.int .i64 s2)) (show t2 + 1 ≠ w.heap.size by omega) (.slice sA s3.length sa)) (show t2 + 1 ≠ w.heap.size by omega) (.slice sB s4.length sb))
      replace HE2 := Aside0.mk (blk_far (p := ⟨w.heap.size, 4, none⟩) (blk_far (p := ⟨w.heap.size, 3, none⟩) (blk_far (p := ⟨w.heap.size, 2, none⟩) (blk_far (p := ⟨w.heap.size, 1, none⟩) (blk_far (p := ⟨w.heap.size, 0, none⟩) HE2.out (show t4 ≠ w.heap.size by omega) (.int .i64 s0)) (show t4 ≠ w.heap.size by omega) (.int .i64 s1)) (show t4 ≠ w.heap.size by omega) (.int .i64 s2)) (show t4 ≠ w.heap.size by omega) (.slice sA s3.length sa)) (show t4 ≠ w.heap.size by omega) (.slice sB s4.length sb))
      replace HE3 := Aside0.mk (blk_far (p := ⟨w.heap.size, 4, none⟩) (blk_far (p := ⟨w.heap.size, 3, none⟩) (blk_far (p := ⟨w.heap.size, 2, none⟩) (blk_far (p := ⟨w.heap.size, 1, none⟩) (blk_far (p := ⟨w.heap.size, 0, none⟩) HE3.out (show t5 ≠ w.heap.size by omega) (.int .i64 s0)) (show t5 ≠ w.heap.size by omega) (.int .i64 s1)) (show t5 ≠ w.heap.size by omega) (.int .i64 s2)) (show t5 ≠ w.heap.size by omega) (.slice sA s3.length sa)) (show t5 ≠ w.heap.size by omega) (.slice sB s4.length sb))
      replace HE4 := Aside0.mk (blk_far (p := ⟨w.heap.size, 4, none⟩) (blk_far (p := ⟨w.heap.size, 3, none⟩) (blk_far (p := ⟨w.heap.size, 2, none⟩) (blk_far (p := ⟨w.heap.size, 1, none⟩) (blk_far (p := ⟨w.heap.size, 0, none⟩) HE4.out (show t6 ≠ w.heap.size by omega) (.int .i64 s0)) (show t6 ≠ w.heap.size by omega) (.int .i64 s1)) (show t6 ≠ w.heap.size by omega) (.int .i64 s2)) (show t6 ≠ w.heap.size by omega) (.slice sA s3.length sa)) (show t6 ≠ w.heap.size by omega) (.slice sB s4.length sb))
      replace HsV := Aside0.mk (Kd.V_far (p := ⟨w.heap.size, 4, none⟩) (Kd.V_far (p := ⟨w.heap.size, 3, none⟩) (Kd.V_far (p := ⟨w.heap.size, 2, none⟩) (Kd.V_far (p := ⟨w.heap.size, 1, none⟩) (Kd.V_far (p := ⟨w.heap.size, 0, none⟩) HsV.out (fun k_ (hk_ : Wnr.heap.size ≤ k_) => by show k_ ≠ w.heap.size; omega) (.int .i64 s0)) (fun k_ (hk_ : Wnr.heap.size ≤ k_) => by show k_ ≠ w.heap.size; omega) (.int .i64 s1)) (fun k_ (hk_ : Wnr.heap.size ≤ k_) => by show k_ ≠ w.heap.size; omega) (.int .i64 s2)) (fun k_ (hk_ : Wnr.heap.size ≤ k_) => by show k_ ≠ w.heap.size; omega) (.slice sA s3.length sa)) (fun k_ (hk_ : Wnr.heap.size ≤ k_) => by show k_ ≠ w.heap.size; omega) (.slice sB s4.length sb))
      replace HsW := Aside0.mk (Kd.V_far (p := ⟨w.heap.size, 4, none⟩) (Kd.V_far (p := ⟨w.heap.size, 3, none⟩) (Kd.V_far (p := ⟨w.heap.size, 2, none⟩) (Kd.V_far (p := ⟨w.heap.size, 1, none⟩) (Kd.V_far (p := ⟨w.heap.size, 0, none⟩) HsW.out (fun k_ (hk_ : Wnr.heap.size ≤ k_) => by show k_ ≠ w.heap.size; omega) (.int .i64 s0)) (fun k_ (hk_ : Wnr.heap.size ≤ k_) => by show k_ ≠ w.heap.size; omega) (.int .i64 s1)) (fun k_ (hk_ : Wnr.heap.size ≤ k_) => by show k_ ≠ w.heap.size; omega) (.int .i64 s2)) (fun k_ (hk_ : Wnr.heap.size ≤ k_) => by show k_ ≠ w.heap.size; omega) (.slice sA s3.length sa)) (fun k_ (hk_ : Wnr.heap.size ≤ k_) => by show k_ ≠ w.heap.size; omega) (.slice sB s4.length sb))
      replace HB := Aside0.mk (below_set (j := 4) (v := (.slice sB s4.length sb)) (below_set (j := 3) (v := (.slice sA s3.length sa)) (below_set (j := 2) (v := (.int .i64 s2)) (below_set (j := 1) (v := (.int .i64 s1)) (below_set (j := 0) (v := (.int .i64 s0)) HB.out (show w.heap.size ≤ w.heap.size by omega)) (show w.heap.size ≤ w.heap.size by omega)) (show w.heap.size ≤ w.heap.size by omega)) (show w.heap.size ≤ w.heap.size by omega)) (show w.heap.size ≤ w.heap.size by omega))
      generalize (((((W7).setCell ⟨w.heap.size, 0, none⟩ (.int .i64 s0)).setCell ⟨w.heap.size, 1, none⟩ (.int .i64 s1)).setCell ⟨w.heap.size, 2, none⟩ (.int .i64 s2)).setCell ⟨w.heap.size, 3, none⟩ (.slice sA s3.length sa)).setCell ⟨w.heap.size, 4, none⟩ (.slice sB s4.length sb) = W8 at *
      refine hK.out _ _ trivial (fun _ _ => ⟨bc0 HM.out 0, bc0 HM.out 1, bc0 HM.out 2, bc0 HM.out 3, bc0 HM.out 4, bc0 HE1.out 0, bc0 HE2.out 0, bc0 HE3.out 0, bc0 HE4.out 0⟩) (fun hTV => ?_)
      clear hK K hTU
      have hTU := hTV (by kernel_rfl) (by decide)
      clear hTV
      try simp only [Act.put, List.setIfInBounds_toArray, List.set_cons_zero, List.set_cons_succ]
      refine till_one (i := 20) (by kernel_rfl) rfl (fun K hK => ?_)
      go_simp
      refine hK.out _ _ trivial (fun _ h => absurd rfl h) (fun _ => ?_)
      clear hK K hTU
      refine till_done (by kernel_rfl) ?_ _
      have kHT := bc0 HT.out
      have fHT := bf0 HT.out
      have yHT := blk_lt HT.out
      go_wp2
      exact bodyPost_ret (v := .tuple #[.agg #[.int .i64 s0, .int .i64 s1, .int .i64 s2, .slice sA s3.length sa, .slice sB s4.length sb], .bool true]) (by simp [results, Tryd.results22, go_sem, kHT, yHT]) rfl ⟨_, _, rfl, Kd.V_mono (Kd.V_lower (base' := w.heap.size) HsV.out (by omega)) (fun k_ (hk_ : Wnr.heap.size ≤ k_) => by omega), Kd.V_mono (Kd.V_lower (base' := w.heap.size) HsW.out (by omega)) (fun k_ (hk_ : Wnr.heap.size ≤ k_) => by omega), HB.out⟩
    · go_simp
      replace HLb := Aside0.mk (Kd.V_alloc HLb.out (.cells #[.int .i64 0, .int .i64 0] 33))
      replace HKb := Aside0.mk (Kd.V_alloc HKb.out (.cells #[.int .i64 0, .int .i64 0] 33))
      have l4_t4 := blk_lt HT.out
      have l5_t4 := blk_lt HM.out
      have l6_t4 := blk_lt HE1.out
      replace HpV := Aside0.mk (Kd.V_mono (ok' := fun k_ => w2.heap.size ≤ k_ ∧ k_ ≠ wb.heap.size) (Kd.V_elderB HpV.out wb.heap.size (Nat.le_refl _)) (fun k_ hk_ => by have h1_ := hk_.1; have h2_ := hk_.2; omega))
      replace HpW := Aside0.mk (Kd.V_mono (ok' := fun k_ => w2.heap.size ≤ k_ ∧ k_ ≠ wb.heap.size) (Kd.V_elderB HpW.out wb.heap.size (Nat.le_refl _)) (fun k_ hk_ => by have h1_ := hk_.1; have h2_ := hk_.2; omega))
      replace HT := Aside0.mk (blk_later HT.out (.cells #[.int .i64 0, .int .i64 0] 33))
      replace HM := Aside0.mk (blk_later HM.out (.cells #[.int .i64 0, .int .i64 0] 33))
      replace HE1 := Aside0.mk (blk_later HE1.out (.cells #[.int .i64 0, .int .i64 0] 33))
      replace HpV := Aside0.mk (Kd.V_alloc HpV.out (.cells #[.int .i64 0, .int .i64 0] 33))
      replace HpW := Aside0.mk (Kd.V_alloc HpW.out (.cells #[.int .i64 0, .int .i64 0] 33))
      replace HB := Aside0.mk (below_alloc HB.out (.cells #[.int .i64 0, .int .i64 0] 33))
      have HE2 := Aside0.mk (blk_at (w := wb) (.cells #[.int .i64 0, .int .i64 0] 33))
      generalize wb.alloc (.cells #[.int .i64 0, .int .i64 0] 33) = Wt4 at *
      generalize wb.heap.size = t4 at *
      refine hK.out _ _ trivial (fun _ _ => ⟨bc0 HM.out 0, bc0 HM.out 1, bc0 HM.out 2, bc0 HM.out 3, bc0 HM.out 4⟩) (fun hTV => ?_)
      clear hK K hTU
      have hTU := hTV (by kernel_rfl) (by decide)
      clear hTV
      try simp only [Act.put, List.setIfInBounds_toArray, List.set_cons_zero, List.set_cons_succ]
      refine till_one (i := 3) (by kernel_rfl) rfl (fun K hK => ?_)
      go_simp
      go_at_call 6
      have l7_cq := blk_lt HT.out
      have l8_cq := blk_lt HM.out
      have l9_cq := blk_lt HE1.out
      have l10_cq := blk_lt HE2.out
      refine (mailbox_Apply.calls k p0 p1 p2 pA pa p3 pB pb p4 1 0 0 0 9 bC bc fb bD bd bb q0 q1 q2 q3 q4 0 0 _ (Kd.F_now (Kd.V_F HpV.out)) (Kd.V_at HpV.out).2.1 (Kd.F_now (Kd.V_F HpW.out)) (Kd.V_at HpW.out).2.1 (Kd.F_now (Kd.V_F HLb.out)) (Kd.V_at HLb.out).2.1 (Kd.F_now (Kd.V_F HKb.out)) (Kd.V_at HKb.out).2.1 H2.out).mono ?_
      rintro e wq ⟨v3_, v4_, rfl, hv3_, hv4_, hb⟩
      obtain ⟨qA, qa, rfl⟩ := Kd.V_slice hv3_
      obtain ⟨qB, qb, rfl⟩ := Kd.V_slice hv4_
      have HqV := Aside0.mk hv3_
      have HqW := Aside0.mk hv4_
      clear hv3_ hv4_
      have hs_q := below_size hb
      replace HT := Aside0.mk (blk_call HT.out hb)
      replace HM := Aside0.mk (blk_call HM.out hb)
      replace HE1 := Aside0.mk (blk_call HE1.out hb)
      replace HE2 := Aside0.mk (blk_call HE2.out hb)
      replace HpV := Aside0.mk (Kd.V_below HpV.out hb)
      replace HpW := Aside0.mk (Kd.V_below HpW.out hb)
      replace HB := Aside0.mk (below_step HB.out hb)
      clear hb
      clear HpV HpW
      clear HLb HKb
      refine hK.out _ _ trivial (fun _ _ => ⟨bc0 HM.out 0, bc0 HM.out 1, bc0 HM.out 2, bc0 HM.out 3, bc0 HM.out 4⟩) (fun hTV => ?_)
      clear hK K hTU
      have hTU := hTV (by kernel_rfl) (by decide)
      clear hTV
      try simp only [Act.put, List.setIfInBounds_toArray, List.set_cons_zero, List.set_cons_succ]
      refine till_freeD (i := 4) (v := ?_) (some 14) rfl rfl (by decide) (by kernel_rfl) (by kernel_rfl) (by kernel_rfl) (fun _ _ _ h => h) (Or.inl ⟨by rfl, ?_⟩) ⟨hTU.1, fun _ => hTU.2⟩ ?_
      rotate_left
      · (intro w_ _; go_simp; try with_reducible rfl)
      try simp only [Act.put, List.setIfInBounds_toArray, List.set_cons_zero, List.set_cons_succ]
      refine till_freeD (i := 5) (v := ?_) (some 19) rfl rfl (by decide) (by kernel_rfl) (by kernel_rfl) (by kernel_rfl) (fun _ _ _ h => h) (Or.inl ⟨by rfl, ?_⟩) ⟨hTU.1, fun _ => hTU.2⟩ ?_
      rotate_left
      · (intro w_ _; go_simp; try with_reducible rfl)
      try simp only [Act.put, List.setIfInBounds_toArray, List.set_cons_zero, List.set_cons_succ]
      refine till_freeD (i := 6) (v := ?_) (some 20) rfl rfl (by decide) (by kernel_rfl) (by kernel_rfl) (by kernel_rfl) (fun _ _ _ h => h) (Or.inl ⟨by rfl, ?_⟩) ⟨hTU.1, fun _ => hTU.2⟩ ?_
      rotate_left
      · (intro w_ _; go_simp; try with_reducible rfl)
      try simp only [Act.put, List.setIfInBounds_toArray, List.set_cons_zero, List.set_cons_succ]
      refine till_one (i := 8) (by kernel_rfl) rfl (fun K hK => ?_)
      have kHM := bc0 HM.out
      have fHM := bf0 HM.out
      have yHM := blk_lt HM.out
      go_simp
      clear kHM fHM yHM
      replace HT := Aside0.mk (blk_far (p := ⟨t2, 4, none⟩) (blk_far (p := ⟨t2, 3, none⟩) (blk_far (p := ⟨t2, 2, none⟩) (blk_far (p := ⟨t2, 1, none⟩) (blk_far (p := ⟨t2, 0, none⟩) HT.out (show w.heap.size ≠ t2 by omega) (.int .i64 q0)) (show w.heap.size ≠ t2 by omega) (.int .i64 q1)) (show w.heap.size ≠ t2 by omega) (.int .i64 q2)) (show w.heap.size ≠ t2 by omega) (.slice qA q3.length qa)) (show w.heap.size ≠ t2 by omega) (.slice qB q4.length qb))
      replace HM : Aside0 (((((((wq).setCell ⟨t2, 0, none⟩ (.int .i64 q0)).setCell ⟨t2, 1, none⟩ (.int .i64 q1)).setCell ⟨t2, 2, none⟩ (.int .i64 q2)).setCell ⟨t2, 3, none⟩ (.slice qA q3.length qa)).setCell ⟨t2, 4, none⟩ (.slice qB q4.length qb)).heap[t2]? = some (.cells #[(.int .i64 q0), (.int .i64 q1), (.int .i64 q2), (.slice qA q3.length qa), (.slice qB q4.length qb)] 25 (0, 0))) := Aside0.mk (blk_put (blk_put (blk_put (blk_put (blk_put HM.out 0 (.int .i64 q0) rfl) 1 (.int .i64 q1) rfl) 2 (.int .i64 q2) rfl) 3 (.slice qA q3.length qa) rfl) 4 (.slice qB q4.length qb) rfl)
      replace HE1 := Aside0.mk (blk_far (p := ⟨t2, 4, none⟩) (blk_far (p := ⟨t2, 3, none⟩) (blk_far (p := ⟨t2, 2, none⟩) (blk_far (p := ⟨t2, 1, none⟩) (blk_far (p := ⟨t2, 0, none⟩) HE1.out (show t2 + 1 ≠ t2 by omega) (.int .i64 q0)) (show t2 + 1 ≠ t2 by omega) (.int .i64 q1)) (show t2 + 1 ≠ t2 by omega) (.int .i64 q2)) (show t2 + 1 ≠ t2 by omega) (.slice qA q3.length qa)) (show t2 + 1 ≠ t2 by omega) (.slice qB q4.length qb))
      replace HE2 := Aside0.mk (blk_far (p := ⟨t2, 4, none⟩) (blk_far (p := ⟨t2, 3, none⟩) (blk_far (p := ⟨t2, 2, none⟩) (blk_far (p := ⟨t2, 1, none⟩) (blk_far (p := ⟨t2, 0, none⟩) HE2.out (show t4 ≠ t2 by omega) (.int .i64 q0)) (show t4 ≠ t2 by omega) (.int .i64 q1)) (show t4 ≠ t2 by omega) (.int .i64 q2)) (show t4 ≠ t2 by omega) (.slice qA q3.length qa)) (show t4 ≠ t2 by omega) (.slice qB q4.length qb))
      replace HqV := Aside0.mk (Kd.V_far (p := ⟨t2, 4, none⟩) (Kd.V_far (p := ⟨t2, 3, none⟩) (Kd.V_far (p := ⟨t2, 2, none⟩) (Kd.V_far (p := ⟨t2, 1, none⟩) (Kd.V_far (p := ⟨t2, 0, none⟩) HqV.out (fun k_ (hk_ : Wt4.heap.size ≤ k_) => by show k_ ≠ t2; omega) (.int .i64 q0)) (fun k_ (hk_ : Wt4.heap.size ≤ k_) => by show k_ ≠ t2; omega) (.int .i64 q1)) (fun k_ (hk_ : Wt4.heap.size ≤ k_) => by show k_ ≠ t2; omega) (.int .i64 q2)) (fun k_ (hk_ : Wt4.heap.size ≤ k_) => by show k_ ≠ t2; omega) (.slice qA q3.length qa)) (fun k_ (hk_ : Wt4.heap.size ≤ k_) => by show k_ ≠ t2; omega) (.slice qB q4.length qb))
      replace HqW := Aside0.mk (Kd.V_far (p := ⟨t2, 4, none⟩) (Kd.V_far (p := ⟨t2, 3, none⟩) (Kd.V_far (p := ⟨t2, 2, none⟩) (Kd.V_far (p := ⟨t2, 1, none⟩) (Kd.V_far (p := ⟨t2, 0, none⟩) HqW.out (fun k_ (hk_ : Wt4.heap.size ≤ k_) => by show k_ ≠ t2; omega) (.int .i64 q0)) (fun k_ (hk_ : Wt4.heap.size ≤ k_) => by show k_ ≠ t2; omega) (.int .i64 q1)) (fun k_ (hk_ : Wt4.heap.size ≤ k_) => by show k_ ≠ t2; omega) (.int .i64 q2)) (fun k_ (hk_ : Wt4.heap.size ≤ k_) => by show k_ ≠ t2; omega) (.slice qA q3.length qa)) (fun k_ (hk_ : Wt4.heap.size ≤ k_) => by show k_ ≠ t2; omega) (.slice qB q4.length qb))
      replace HB := Aside0.mk (below_set (j := 4) (v := (.slice qB q4.length qb)) (below_set (j := 3) (v := (.slice qA q3.length qa)) (below_set (j := 2) (v := (.int .i64 q2)) (below_set (j := 1) (v := (.int .i64 q1)) (below_set (j := 0) (v := (.int .i64 q0)) HB.out (show w.heap.size ≤ t2 by omega)) (show w.heap.size ≤ t2 by omega)) (show w.heap.size ≤ t2 by omega)) (show w.heap.size ≤ t2 by omega)) (show w.heap.size ≤ t2 by omega))
      generalize (((((wq).setCell ⟨t2, 0, none⟩ (.int .i64 q0)).setCell ⟨t2, 1, none⟩ (.int .i64 q1)).setCell ⟨t2, 2, none⟩ (.int .i64 q2)).setCell ⟨t2, 3, none⟩ (.slice qA q3.length qa)).setCell ⟨t2, 4, none⟩ (.slice qB q4.length qb) = Ws at *
      refine hK.out _ _ trivial (fun _ h => absurd rfl h) (fun _ => ?_)
      clear hK K hTU
      try simp only [Act.put, List.setIfInBounds_toArray, List.set_cons_zero, List.set_cons_succ]
      refine till_one (i := 9) (by kernel_rfl) rfl (fun K hK => ?_)
      have kHE2 := bc0 HE2.out
      have fHE2 := bf0 HE2.out
      have yHE2 := blk_lt HE2.out
      go_simp
      clear kHE2 fHE2 yHE2
      replace HT := Aside0.mk (blk_far (p := ⟨t4, 1, none⟩) (blk_far (p := ⟨t4, 0, none⟩) HT.out (show w.heap.size ≠ t4 by omega) (.int .i64 0)) (show w.heap.size ≠ t4 by omega) (.int .i64 0))
      replace HM := Aside0.mk (blk_far (p := ⟨t4, 1, none⟩) (blk_far (p := ⟨t4, 0, none⟩) HM.out (show t2 ≠ t4 by omega) (.int .i64 0)) (show t2 ≠ t4 by omega) (.int .i64 0))
      replace HE1 := Aside0.mk (blk_far (p := ⟨t4, 1, none⟩) (blk_far (p := ⟨t4, 0, none⟩) HE1.out (show t2 + 1 ≠ t4 by omega) (.int .i64 0)) (show t2 + 1 ≠ t4 by omega) (.int .i64 0))
      replace HE2 : Aside0 ((((Ws).setCell ⟨t4, 0, none⟩ (.int .i64 0)).setCell ⟨t4, 1, none⟩ (.int .i64 0)).heap[t4]? = some (.cells #[(.int .i64 0), (.int .i64 0)] 33 (0, 0))) := Aside0.mk (blk_put (blk_put HE2.out 0 (.int .i64 0) rfl) 1 (.int .i64 0) rfl)
      replace HqV := Aside0.mk (Kd.V_far (p := ⟨t4, 1, none⟩) (Kd.V_far (p := ⟨t4, 0, none⟩) HqV.out (fun k_ (hk_ : Wt4.heap.size ≤ k_) => by show k_ ≠ t4; omega) (.int .i64 0)) (fun k_ (hk_ : Wt4.heap.size ≤ k_) => by show k_ ≠ t4; omega) (.int .i64 0))
      replace HqW := Aside0.mk (Kd.V_far (p := ⟨t4, 1, none⟩) (Kd.V_far (p := ⟨t4, 0, none⟩) HqW.out (fun k_ (hk_ : Wt4.heap.size ≤ k_) => by show k_ ≠ t4; omega) (.int .i64 0)) (fun k_ (hk_ : Wt4.heap.size ≤ k_) => by show k_ ≠ t4; omega) (.int .i64 0))
      replace HB := Aside0.mk (below_set (j := 1) (v := (.int .i64 0)) (below_set (j := 0) (v := (.int .i64 0)) HB.out (show w.heap.size ≤ t4 by omega)) (show w.heap.size ≤ t4 by omega))
      generalize ((Ws).setCell ⟨t4, 0, none⟩ (.int .i64 0)).setCell ⟨t4, 1, none⟩ (.int .i64 0) = We at *
      refine hK.out _ _ trivial (fun h_ => by have h9_ := h_.symm.trans (show _ = true from by kernel_rfl); cases h9_) (fun _ => ?_)
      clear hK K
      try simp only [Act.put, List.setIfInBounds_toArray, List.set_cons_zero, List.set_cons_succ]
      refine till_done (by kernel_rfl) ?_ _
      have kHM := bc0 HM.out
      have fHM := bf0 HM.out
      have yHM := blk_lt HM.out
      go_wp2_with fail
      clear kHM fHM yHM
      have l11_cr := blk_lt HT.out
      have l12_cr := blk_lt HM.out
      have l13_cr := blk_lt HE1.out
      have l14_cr := blk_lt HE2.out
      refine (mailbox_Apply.calls k q0 q1 q2 qA qa q3 qB qb q4 2 2 1 0 0 none 0 [] none 0 [] r0 r1 r2 r3 r4 0 0 _ (Kd.F_now (Kd.V_F HqV.out)) (Kd.V_at HqV.out).2.1 (Kd.F_now (Kd.V_F HqW.out)) (Kd.V_at HqW.out).2.1 (Kd.C_nil k77 _) (Nat.le_refl _) (Kd.C_nil (Kd.int .u8) _) (Nat.le_refl _) H3.out).mono ?_
      rintro e wr ⟨v3_, v4_, rfl, hv3_, hv4_, hb⟩
      obtain ⟨rA, ra, rfl⟩ := Kd.V_slice hv3_
      obtain ⟨rB, rb, rfl⟩ := Kd.V_slice hv4_
      have HrV := Aside0.mk hv3_
      have HrW := Aside0.mk hv4_
      clear hv3_ hv4_
      have hs_r := below_size hb
      replace HT := Aside0.mk (blk_call HT.out hb)
      replace HM := Aside0.mk (blk_call HM.out hb)
      replace HE1 := Aside0.mk (blk_call HE1.out hb)
      replace HE2 := Aside0.mk (blk_call HE2.out hb)
      replace HqV := Aside0.mk (Kd.V_below HqV.out hb)
      replace HqW := Aside0.mk (Kd.V_below HqW.out hb)
      replace HB := Aside0.mk (below_step HB.out hb)
      clear hb
      clear HqV HqW
      have kHM := bc0 HM.out
      have fHM := bf0 HM.out
      have yHM := blk_lt HM.out
      go_wp2_with fail
      clear kHM fHM yHM
      replace HT := Aside0.mk (blk_far (p := ⟨t2, 4, none⟩) (blk_far (p := ⟨t2, 3, none⟩) (blk_far (p := ⟨t2, 2, none⟩) (blk_far (p := ⟨t2, 1, none⟩) (blk_far (p := ⟨t2, 0, none⟩) HT.out (show w.heap.size ≠ t2 by omega) (.int .i64 r0)) (show w.heap.size ≠ t2 by omega) (.int .i64 r1)) (show w.heap.size ≠ t2 by omega) (.int .i64 r2)) (show w.heap.size ≠ t2 by omega) (.slice rA r3.length ra)) (show w.heap.size ≠ t2 by omega) (.slice rB r4.length rb))
      replace HM : Aside0 (((((((wr).setCell ⟨t2, 0, none⟩ (.int .i64 r0)).setCell ⟨t2, 1, none⟩ (.int .i64 r1)).setCell ⟨t2, 2, none⟩ (.int .i64 r2)).setCell ⟨t2, 3, none⟩ (.slice rA r3.length ra)).setCell ⟨t2, 4, none⟩ (.slice rB r4.length rb)).heap[t2]? = some (.cells #[(.int .i64 r0), (.int .i64 r1), (.int .i64 r2), (.slice rA r3.length ra), (.slice rB r4.length rb)] 25 (0, 0))) := Aside0.mk (blk_put (blk_put (blk_put (blk_put (blk_put HM.out 0 (.int .i64 r0) rfl) 1 (.int .i64 r1) rfl) 2 (.int .i64 r2) rfl) 3 (.slice rA r3.length ra) rfl) 4 (.slice rB r4.length rb) rfl)
      replace HE1 := Aside0.mk (blk_far (p := ⟨t2, 4, none⟩) (blk_far (p := ⟨t2, 3, none⟩) (blk_far (p := ⟨t2, 2, none⟩) (blk_far (p := ⟨t2, 1, none⟩) (blk_far (p := ⟨t2, 0, none⟩) HE1.out (show t2 + 1 ≠ t2 by omega) (.int .i64 r0)) (show t2 + 1 ≠ t2 by omega) (.int .i64 r1)) (show t2 + 1 ≠ t2 by omega) (.int .i64 r2)) (show t2 + 1 ≠ t2 by omega) (.slice rA r3.length ra)) (show t2 + 1 ≠ t2 by omega) (.slice rB r4.length rb))
      replace HE2 := Aside0.mk (blk_far (p := ⟨t2, 4, none⟩) (blk_far (p := ⟨t2, 3, none⟩) (blk_far (p := ⟨t2, 2, none⟩) (blk_far (p := ⟨t2, 1, none⟩) (blk_far (p := ⟨t2, 0, none⟩) HE2.out (show t4 ≠ t2 by omega) (.int .i64 r0)) (show t4 ≠ t2 by omega) (.int .i64 r1)) (show t4 ≠ t2 by omega) (.int .i64 r2)) (show t4 ≠ t2 by omega) (.slice rA r3.length ra)) (show t4 ≠ t2 by omega) (.slice rB r4.length rb))
      replace HrV := Aside0.mk (Kd.V_far (p := ⟨t2, 4, none⟩) (Kd.V_far (p := ⟨t2, 3, none⟩) (Kd.V_far (p := ⟨t2, 2, none⟩) (Kd.V_far (p := ⟨t2, 1, none⟩) (Kd.V_far (p := ⟨t2, 0, none⟩) HrV.out (fun k_ (hk_ : We.heap.size ≤ k_) => by show k_ ≠ t2; omega) (.int .i64 r0)) (fun k_ (hk_ : We.heap.size ≤ k_) => by show k_ ≠ t2; omega) (.int .i64 r1)) (fun k_ (hk_ : We.heap.size ≤ k_) => by show k_ ≠ t2; omega) (.int .i64 r2)) (fun k_ (hk_ : We.heap.size ≤ k_) => by show k_ ≠ t2; omega) (.slice rA r3.length ra)) (fun k_ (hk_ : We.heap.size ≤ k_) => by show k_ ≠ t2; omega) (.slice rB r4.length rb))
      replace HrW := Aside0.mk (Kd.V_far (p := ⟨t2, 4, none⟩) (Kd.V_far (p := ⟨t2, 3, none⟩) (Kd.V_far (p := ⟨t2, 2, none⟩) (Kd.V_far (p := ⟨t2, 1, none⟩) (Kd.V_far (p := ⟨t2, 0, none⟩) HrW.out (fun k_ (hk_ : We.heap.size ≤ k_) => by show k_ ≠ t2; omega) (.int .i64 r0)) (fun k_ (hk_ : We.heap.size ≤ k_) => by show k_ ≠ t2; omega) (.int .i64 r1)) (fun k_ (hk_ : We.heap.size ≤ k_) => by show k_ ≠ t2; omega) (.int .i64 r2)) (fun k_ (hk_ : We.heap.size ≤ k_) => by show k_ ≠ t2; omega) (.slice rA r3.length ra)) (fun k_ (hk_ : We.heap.size ≤ k_) => by show k_ ≠ t2; omega) (.slice rB r4.length rb))
      replace HB := Aside0.mk (below_set (j := 4) (v := (.slice rB r4.length rb)) (below_set (j := 3) (v := (.slice rA r3.length ra)) (below_set (j := 2) (v := (.int .i64 r2)) (below_set (j := 1) (v := (.int .i64 r1)) (below_set (j := 0) (v := (.int .i64 r0)) HB.out (show w.heap.size ≤ t2 by omega)) (show w.heap.size ≤ t2 by omega)) (show w.heap.size ≤ t2 by omega)) (show w.heap.size ≤ t2 by omega)) (show w.heap.size ≤ t2 by omega))
      have hp_r : ((((((wr).setCell ⟨t2, 0, none⟩ (.int .i64 r0)).setCell ⟨t2, 1, none⟩ (.int .i64 r1)).setCell ⟨t2, 2, none⟩ (.int .i64 r2)).setCell ⟨t2, 3, none⟩ (.slice rA r3.length ra)).setCell ⟨t2, 4, none⟩ (.slice rB r4.length rb)).heap.size = wr.heap.size := by simp
      generalize (((((wr).setCell ⟨t2, 0, none⟩ (.int .i64 r0)).setCell ⟨t2, 1, none⟩ (.int .i64 r1)).setCell ⟨t2, 2, none⟩ (.int .i64 r2)).setCell ⟨t2, 3, none⟩ (.slice rA r3.length ra)).setCell ⟨t2, 4, none⟩ (.slice rB r4.length rb) = Wmr at *
      have l15_t5 := blk_lt HT.out
      have l16_t5 := blk_lt HM.out
      have l17_t5 := blk_lt HE1.out
      have l18_t5 := blk_lt HE2.out
      replace HT := Aside0.mk (blk_later HT.out (.cells #[.int .i64 0, .int .i64 0] 33))
      replace HM := Aside0.mk (blk_later HM.out (.cells #[.int .i64 0, .int .i64 0] 33))
      replace HE1 := Aside0.mk (blk_later HE1.out (.cells #[.int .i64 0, .int .i64 0] 33))
      replace HE2 := Aside0.mk (blk_later HE2.out (.cells #[.int .i64 0, .int .i64 0] 33))
      replace HrV := Aside0.mk (Kd.V_alloc HrV.out (.cells #[.int .i64 0, .int .i64 0] 33))
      replace HrW := Aside0.mk (Kd.V_alloc HrW.out (.cells #[.int .i64 0, .int .i64 0] 33))
      replace HB := Aside0.mk (below_alloc HB.out (.cells #[.int .i64 0, .int .i64 0] 33))
      have HE3 := Aside0.mk (blk_at (w := Wmr) (.cells #[.int .i64 0, .int .i64 0] 33))
      rw [hp_r] at HE3 l15_t5 l16_t5 l17_t5 l18_t5
      clear hp_r
      generalize Wmr.alloc (.cells #[.int .i64 0, .int .i64 0] 33) = Wnr at *
      generalize wr.heap.size = t5 at *
      have kHM := bc0 HM.out
      have fHM := bf0 HM.out
      have yHM := blk_lt HM.out
      go_wp2_with fail
      clear kHM fHM yHM
      have l19_cs := blk_lt HT.out
      have l20_cs := blk_lt HM.out
      have l21_cs := blk_lt HE1.out
      have l22_cs := blk_lt HE2.out
      have l23_cs := blk_lt HE3.out
      refine (mailbox_Apply.calls k r0 r1 r2 rA ra r3 rB rb r4 3 1 0 0 0 none 0 [] none 0 [] s0 s1 s2 s3 s4 0 0 _ (Kd.F_now (Kd.V_F HrV.out)) (Kd.V_at HrV.out).2.1 (Kd.F_now (Kd.V_F HrW.out)) (Kd.V_at HrW.out).2.1 (Kd.C_nil k77 _) (Nat.le_refl _) (Kd.C_nil (Kd.int .u8) _) (Nat.le_refl _) H4.out).mono ?_
      rintro e ws ⟨v3_, v4_, rfl, hv3_, hv4_, hb⟩
      obtain ⟨sA, sa, rfl⟩ := Kd.V_slice hv3_
      obtain ⟨sB, sb, rfl⟩ := Kd.V_slice hv4_
      have HsV := Aside0.mk hv3_
      have HsW := Aside0.mk hv4_
      clear hv3_ hv4_
      have hs_s := below_size hb
      replace HT := Aside0.mk (blk_call HT.out hb)
      replace HM := Aside0.mk (blk_call HM.out hb)
      replace HE1 := Aside0.mk (blk_call HE1.out hb)
      replace HE2 := Aside0.mk (blk_call HE2.out hb)
      replace HE3 := Aside0.mk (blk_call HE3.out hb)
      replace HrV := Aside0.mk (Kd.V_below HrV.out hb)
      replace HrW := Aside0.mk (Kd.V_below HrW.out hb)
      replace HB := Aside0.mk (below_step HB.out hb)
      clear hb
      clear HrV HrW
      have kHM := bc0 HM.out
      have fHM := bf0 HM.out
      have yHM := blk_lt HM.out
      go_wp2
      clear kHM fHM yHM
      replace HT := Aside0.mk (blk_far (p := ⟨t2, 4, none⟩) (blk_far (p := ⟨t2, 3, none⟩) (blk_far (p := ⟨t2, 2, none⟩) (blk_far (p := ⟨t2, 1, none⟩) (blk_far (p := ⟨t2, 0, none⟩) HT.out (show w.heap.size ≠ t2 by omega) (.int .i64 s0)) (show w.heap.size ≠ t2 by omega) (.int .i64 s1)) (show w.heap.size ≠ t2 by omega) (.int .i64 s2)) (show w.heap.size ≠ t2 by omega) (.slice sA s3.length sa)) (show w.heap.size ≠ t2 by omega) (.slice sB s4.length sb))
      replace HM : Aside0 (((((((ws).setCell ⟨t2, 0, none⟩ (.int .i64 s0)).setCell ⟨t2, 1, none⟩ (.int .i64 s1)).setCell ⟨t2, 2, none⟩ (.int .i64 s2)).setCell ⟨t2, 3, none⟩ (.slice sA s3.length sa)).setCell ⟨t2, 4, none⟩ (.slice sB s4.length sb)).heap[t2]? = some (.cells #[(.int .i64 s0), (.int .i64 s1), (.int .i64 s2), (.slice sA s3.length sa), (.slice sB s4.length sb)] 25 (0, 0))) := Aside0.mk (blk_put (blk_put (blk_put (blk_put (blk_put HM.out 0 (.int .i64 s0) rfl) 1 (.int .i64 s1) rfl) 2 (.int .i64 s2) rfl) 3 (.slice sA s3.length sa) rfl) 4 (.slice sB s4.length sb) rfl)
      replace HE1 := Aside0.mk (blk_far (p := ⟨t2, 4, none⟩) (blk_far (p := ⟨t2, 3, none⟩) (blk_far (p := ⟨t2, 2, none⟩) (blk_far (p := ⟨t2, 1, none⟩) (blk_far (p := ⟨t2, 0, none⟩) HE1.out (show t2 + 1 ≠ t2 by omega) (.int .i64 s0)) (show t2 + 1 ≠ t2 by omega) (.int .i64 s1)) (show t2 + 1 ≠ t2 by omega) (.int .i64 s2)) (show t2 + 1 ≠ t2 by omega) (.slice sA s3.length sa)) (show t2 + 1 ≠ t2 by omega) (.slice sB s4.length sb))
      replace HE2 := Aside0.mk (blk_far (p := ⟨t2, 4, none⟩) (blk_far (p := ⟨t2, 3, none⟩) (blk_far (p := ⟨t2, 2, none⟩) (blk_far (p := ⟨t2, 1, none⟩) (blk_far (p := ⟨t2, 0, none⟩) HE2.out (show t4 ≠ t2 by omega) (.int .i64 s0)) (show t4 ≠ t2 by omega) (.int .i64 s1)) (show t4 ≠ t2 by omega) (.int .i64 s2)) (show t4 ≠ t2 by omega) (.slice sA s3.length sa)) (show t4 ≠ t2 by omega) (.slice sB s4.length sb))
      replace HE3 := Aside0.mk (blk_far (p := ⟨t2, 4, none⟩) (blk_far (p := ⟨t2, 3, none⟩) (blk_far (p := ⟨t2, 2, none⟩) (blk_far (p := ⟨t2, 1, none⟩) (blk_far (p := ⟨t2, 0, none⟩) HE3.out (show t5 ≠ t2 by omega) (.int .i64 s0)) (show t5 ≠ t2 by omega) (.int .i64 s1)) (show t5 ≠ t2 by omega) (.int .i64 s2)) (show t5 ≠ t2 by omega) (.slice sA s3.length sa)) (show t5 ≠ t2 by omega) (.slice sB s4.length sb))
      replace HsV := Aside0.mk (Kd.V_far (p := ⟨t2, 4, none⟩) (Kd.V_far (p := ⟨t2, 3, none⟩) (Kd.V_far (p := ⟨t2, 2, none⟩) (Kd.V_far (p := ⟨t2, 1, none⟩) (Kd.V_far (p := ⟨t2, 0, none⟩) HsV.out (fun k_ (hk_ : Wnr.heap.size ≤ k_) => by show k_ ≠ t2; omega) (.int .i64 s0)) (fun k_ (hk_ : Wnr.heap.size ≤ k_) => by show k_ ≠ t2; omega) (.int .i64 s1)) (fun k_ (hk_ : Wnr.heap.size ≤ k_) => by show k_ ≠ t2; omega) (.int .i64 s2)) (fun k_ (hk_ : Wnr.heap.size ≤ k_) => by show k_ ≠ t2; omega) (.slice sA s3.length sa)) (fun k_ (hk_ : Wnr.heap.size ≤ k_) => by show k_ ≠ t2; omega) (.slice sB s4.length sb))
      replace HsW := Aside0.mk (Kd.V_far (p := ⟨t2, 4, none⟩) (Kd.V_far (p := ⟨t2, 3, none⟩) (Kd.V_far (p := ⟨t2, 2, none⟩) (Kd.V_far (p := ⟨t2, 1, none⟩) (Kd.V_far (p := ⟨t2, 0, none⟩) HsW.out (fun k_ (hk_ : Wnr.heap.size ≤ k_) => by show k_ ≠ t2; omega) (.int .i64 s0)) (fun k_ (hk_ : Wnr.heap.size ≤ k_) => by show k_ ≠ t2; omega) (.int .i64 s1)) (fun k_ (hk_ : Wnr.heap.size ≤ k_) => by show k_ ≠ t2; omega) (.int .i64 s2)) (fun k_ (hk_ : Wnr.heap.size ≤ k_) => by show k_ ≠ t2; omega) (.slice sA s3.length sa)) (fun k_ (hk_ : Wnr.heap.size ≤ k_) => by show k_ ≠ t2; omega) (.slice sB s4.length sb))
      replace HB := Aside0.mk (below_set (j := 4) (v := (.slice sB s4.length sb)) (below_set (j := 3) (v := (.slice sA s3.length sa)) (below_set (j := 2) (v := (.int .i64 s2)) (below_set (j := 1) (v := (.int .i64 s1)) (below_set (j := 0) (v := (.int .i64 s0)) HB.out (show w.heap.size ≤ t2 by omega)) (show w.heap.size ≤ t2 by omega)) (show w.heap.size ≤ t2 by omega)) (show w.heap.size ≤ t2 by omega)) (show w.heap.size ≤ t2 by omega))
      have hp_s : ((((((ws).setCell ⟨t2, 0, none⟩ (.int .i64 s0)).setCell ⟨t2, 1, none⟩ (.int .i64 s1)).setCell ⟨t2, 2, none⟩ (.int .i64 s2)).setCell ⟨t2, 3, none⟩ (.slice sA s3.length sa)).setCell ⟨t2, 4, none⟩ (.slice sB s4.length sb)).heap.size = ws.heap.size := by simp
      generalize (((((ws).setCell ⟨t2, 0, none⟩ (.int .i64 s0)).setCell ⟨t2, 1, none⟩ (.int .i64 s1)).setCell ⟨t2, 2, none⟩ (.int .i64 s2)).setCell ⟨t2, 3, none⟩ (.slice sA s3.length sa)).setCell ⟨t2, 4, none⟩ (.slice sB s4.length sb) = Wms at *
      have l24_t6 := blk_lt HT.out
      have l25_t6 := blk_lt HM.out
      have l26_t6 := blk_lt HE1.out
      have l27_t6 := blk_lt HE2.out
      have l28_t6 := blk_lt HE3.out
      replace HT := Aside0.mk (blk_later HT.out (.cells #[.int .i64 0, .int .i64 0] 33))
      replace HM := Aside0.mk (blk_later HM.out (.cells #[.int .i64 0, .int .i64 0] 33))
      replace HE1 := Aside0.mk (blk_later HE1.out (.cells #[.int .i64 0, .int .i64 0] 33))
      replace HE2 := Aside0.mk (blk_later HE2.out (.cells #[.int .i64 0, .int .i64 0] 33))
      replace HE3 := Aside0.mk (blk_later HE3.out (.cells #[.int .i64 0, .int .i64 0] 33))
      replace HsV := Aside0.mk (Kd.V_alloc HsV.out (.cells #[.int .i64 0, .int .i64 0] 33))
      replace HsW := Aside0.mk (Kd.V_alloc HsW.out (.cells #[.int .i64 0, .int .i64 0] 33))
      replace HB := Aside0.mk (below_alloc HB.out (.cells #[.int .i64 0, .int .i64 0] 33))
      have HE4 := Aside0.mk (blk_at (w := Wms) (.cells #[.int .i64 0, .int .i64 0] 33))
      rw [hp_s] at HE4 l24_t6 l25_t6 l26_t6 l27_t6 l28_t6
      clear hp_s
      generalize Wms.alloc (.cells #[.int .i64 0, .int .i64 0] 33) = Wns at *
      generalize ws.heap.size = t6 at *
      refine region_till 20 (fun _ => True) (fun w' : World => w'.cell? ⟨t2, 0, none⟩ = some (.int .i64 s0) ∧ w'.cell? ⟨t2, 1, none⟩ = some (.int .i64 s1) ∧ w'.cell? ⟨t2, 2, none⟩ = some (.int .i64 s2) ∧ w'.cell? ⟨t2, 3, none⟩ = some (.slice sA s3.length sa) ∧ w'.cell? ⟨t2, 4, none⟩ = some (.slice sB s4.length sb) ∧ w'.cell? ⟨t2 + 1, 0, none⟩ = some (.int .i64 0) ∧ w'.cell? ⟨t4, 0, none⟩ = some (.int .i64 0) ∧ w'.cell? ⟨t5, 0, none⟩ = some (.int .i64 0) ∧ w'.cell? ⟨t6, 0, none⟩ = some (.int .i64 0)) (by kernel_rfl) ⟨trivial, ⟨bc0 (blk_drew HM.out) 0, bc0 (blk_drew HM.out) 1, bc0 (blk_drew HM.out) 2, bc0 (blk_drew HM.out) 3, bc0 (blk_drew HM.out) 4, bc0 (blk_drew HE1.out) 0, bc0 (blk_drew HE2.out) 0, bc0 (blk_drew HE3.out) 0, bc0 (blk_drew HE4.out) 0⟩⟩ (fun hTU => ?_)
      replace HT := Aside0.mk (blk_drew HT.out)
      replace HM := Aside0.mk (blk_drew HM.out)
      replace HE1 := Aside0.mk (blk_drew HE1.out)
      replace HE2 := Aside0.mk (blk_drew HE2.out)
      replace HE3 := Aside0.mk (blk_drew HE3.out)
      replace HE4 := Aside0.mk (blk_drew HE4.out)
      replace HsV := Aside0.mk (Kd.V_drew HsV.out)
      replace HsW := Aside0.mk (Kd.V_drew HsW.out)
      replace HB := Aside0.mk (below_drew1 HB.out)
      generalize Wns.drew = W7 at *
      refine till_takeD (i := 0) (v := ?_) (some 33) rfl rfl (by kernel_rfl) (by kernel_rfl) (by kernel_rfl) (by kernel_rfl) (fun _ _ _ h => h) (Or.inl ⟨by rfl, ?_⟩) (by assumption) ?_
      rotate_left
      · (intro w_ hS_; (try dsimp only at hS_); go_simp; try with_reducible rfl)
      try simp only [Act.put, List.setIfInBounds_toArray, List.set_cons_zero, List.set_cons_succ]
      refine till_takeD (i := 1) (v := ?_) (some 34) rfl rfl (by kernel_rfl) (by kernel_rfl) (by kernel_rfl) (by kernel_rfl) (fun _ _ _ h => h) (Or.inl ⟨by rfl, ?_⟩) (by assumption) ?_
      rotate_left
      · (intro w_ hS_; (try dsimp only at hS_); go_simp; try with_reducible rfl)
      try simp only [Act.put, List.setIfInBounds_toArray, List.set_cons_zero, List.set_cons_succ]
      refine till_takeD (i := 2) (v := ?_) (some 35) rfl rfl (by kernel_rfl) (by kernel_rfl) (by kernel_rfl) (by kernel_rfl) (fun _ _ _ h => h) (Or.inl ⟨by rfl, ?_⟩) (by assumption) ?_
      rotate_left
      · (intro w_ hS_; (try dsimp only at hS_); go_simp; try with_reducible rfl)
      try simp only [Act.put, List.setIfInBounds_toArray, List.set_cons_zero, List.set_cons_succ]
      refine till_takeD (i := 3) (v := ?_) (some 36) rfl rfl (by kernel_rfl) (by kernel_rfl) (by kernel_rfl) (by kernel_rfl) (fun _ _ _ h => h) (Or.inl ⟨by rfl, ?_⟩) (by assumption) ?_
      rotate_left
      · (intro w_ hS_; (try dsimp only at hS_); go_simp; try with_reducible rfl)
      try simp only [Act.put, List.setIfInBounds_toArray, List.set_cons_zero, List.set_cons_succ]
      refine till_takeD (i := 4) (v := ?_) (some 37) rfl rfl (by kernel_rfl) (by kernel_rfl) (by kernel_rfl) (by kernel_rfl) (fun _ _ _ h => h) (Or.inl ⟨by rfl, ?_⟩) (by assumption) ?_
      rotate_left
      · (intro w_ hS_; (try dsimp only at hS_); go_simp; try with_reducible rfl)
      try simp only [Act.put, List.setIfInBounds_toArray, List.set_cons_zero, List.set_cons_succ]
      refine till_takeD (i := 5) (v := ?_) (some 38) rfl rfl (by kernel_rfl) (by kernel_rfl) (by kernel_rfl) (by kernel_rfl) (fun _ _ _ h => h) (Or.inl ⟨by rfl, ?_⟩) (by assumption) ?_
      rotate_left
      · (intro w_ hS_; (try dsimp only at hS_); go_simp; try with_reducible rfl)
      try simp only [Act.put, List.setIfInBounds_toArray, List.set_cons_zero, List.set_cons_succ]
      refine till_takeD (i := 6) (v := ?_) (some 39) rfl rfl (by kernel_rfl) (by kernel_rfl) (by kernel_rfl) (by kernel_rfl) (fun _ _ _ h => h) (Or.inl ⟨by rfl, ?_⟩) (by assumption) ?_
      rotate_left
      · (intro w_ hS_; (try dsimp only at hS_); go_simp; try with_reducible rfl)
      try simp only [Act.put, List.setIfInBounds_toArray, List.set_cons_zero, List.set_cons_succ]
      refine till_takeD (i := 7) (v := ?_) (some 40) rfl rfl (by kernel_rfl) (by kernel_rfl) (by kernel_rfl) (by kernel_rfl) (fun _ _ _ h => h) (Or.inl ⟨by rfl, ?_⟩) (by assumption) ?_
      rotate_left
      · (intro w_ hS_; (try dsimp only at hS_); go_simp; try with_reducible rfl)
      try simp only [Act.put, List.setIfInBounds_toArray, List.set_cons_zero, List.set_cons_succ]
      refine till_takeD (i := 8) (v := ?_) (some 41) rfl rfl (by kernel_rfl) (by kernel_rfl) (by kernel_rfl) (by kernel_rfl) (fun _ _ _ h => h) (Or.inl ⟨by rfl, ?_⟩) (by assumption) ?_
      rotate_left
      · (intro w_ hS_; (try dsimp only at hS_); go_simp; try with_reducible rfl)
      try simp only [Act.put, List.setIfInBounds_toArray, List.set_cons_zero, List.set_cons_succ]
      refine till_takeD (i := 9) (v := ?_) (some 42) rfl rfl (by kernel_rfl) (by kernel_rfl) (by kernel_rfl) (by kernel_rfl) (fun _ _ _ h => h) (Or.inl ⟨by rfl, ?_⟩) (by assumption) ?_
      rotate_left
      · (intro w_ hS_; (try dsimp only at hS_); go_simp; try with_reducible rfl)
      try simp only [Act.put, List.setIfInBounds_toArray, List.set_cons_zero, List.set_cons_succ]
      refine till_takeD (i := 10) (v := ?_) (some 43) rfl rfl (by kernel_rfl) (by kernel_rfl) (by kernel_rfl) (by kernel_rfl) (fun _ _ _ h => h) (Or.inl ⟨by rfl, ?_⟩) (by assumption) ?_
      rotate_left
      · (intro w_ hS_; (try dsimp only at hS_); go_simp; try with_reducible rfl)
      try simp only [Act.put, List.setIfInBounds_toArray, List.set_cons_zero, List.set_cons_succ]
      refine till_takeD (i := 11) (v := ?_) (some 44) rfl rfl (by kernel_rfl) (by kernel_rfl) (by kernel_rfl) (by kernel_rfl) (fun _ _ _ h => h) (Or.inl ⟨by rfl, ?_⟩) (by assumption) ?_
      rotate_left
      · (intro w_ hS_; (try dsimp only at hS_); go_simp; try with_reducible rfl)
      try simp only [Act.put, List.setIfInBounds_toArray, List.set_cons_zero, List.set_cons_succ]
      refine till_takeD (i := 12) (v := ?_) (some 45) rfl rfl (by kernel_rfl) (by kernel_rfl) (by kernel_rfl) (by kernel_rfl) (fun _ _ _ h => h) (Or.inl ⟨by rfl, ?_⟩) (by assumption) ?_
      rotate_left
      · (intro w_ hS_; (try dsimp only at hS_); go_simp; try with_reducible rfl)
      try simp only [Act.put, List.setIfInBounds_toArray, List.set_cons_zero, List.set_cons_succ]
      refine till_takeD (i := 13) (v := ?_) (some 46) rfl rfl (by kernel_rfl) (by kernel_rfl) (by kernel_rfl) (by kernel_rfl) (fun _ _ _ h => h) (Or.inl ⟨by rfl, ?_⟩) (by assumption) ?_
      rotate_left
      · (intro w_ hS_; (try dsimp only at hS_); go_simp; try with_reducible rfl)
      try simp only [Act.put, List.setIfInBounds_toArray, List.set_cons_zero, List.set_cons_succ]
      refine till_takeD (i := 14) (v := ?_) (some 47) rfl rfl (by kernel_rfl) (by kernel_rfl) (by kernel_rfl) (by kernel_rfl) (fun _ _ _ h => h) (Or.inl ⟨by rfl, ?_⟩) (by assumption) ?_
      rotate_left
      · (intro w_ hS_; (try dsimp only at hS_); go_simp; try with_reducible rfl)
      try simp only [Act.put, List.setIfInBounds_toArray, List.set_cons_zero, List.set_cons_succ]
      refine till_takeD (i := 15) (v := ?_) (some 48) rfl rfl (by kernel_rfl) (by kernel_rfl) (by kernel_rfl) (by kernel_rfl) (fun _ _ _ h => h) (Or.inl ⟨by rfl, ?_⟩) (by assumption) ?_
      rotate_left
      · (intro w_ hS_; (try dsimp only at hS_); go_simp; try with_reducible rfl)
      try simp only [Act.put, List.setIfInBounds_toArray, List.set_cons_zero, List.set_cons_succ]
      refine till_takeD (i := 16) (v := ?_) (some 49) rfl rfl (by kernel_rfl) (by kernel_rfl) (by kernel_rfl) (by kernel_rfl) (fun _ _ _ h => h) (Or.inl ⟨by rfl, ?_⟩) (by assumption) ?_
      rotate_left
      · (intro w_ hS_; (try dsimp only at hS_); go_simp; try with_reducible rfl)
      try simp only [Act.put, List.setIfInBounds_toArray, List.set_cons_zero, List.set_cons_succ]
      refine till_takeD (i := 17) (v := ?_) (some 50) rfl rfl (by kernel_rfl) (by kernel_rfl) (by kernel_rfl) (by kernel_rfl) (fun _ _ _ h => h) (Or.inl ⟨by rfl, ?_⟩) (by assumption) ?_
      rotate_left
      · (intro w_ hS_; (try dsimp only at hS_); go_simp; try with_reducible rfl)
      try simp only [Act.put, List.setIfInBounds_toArray, List.set_cons_zero, List.set_cons_succ]
      refine till_takeD (i := 18) (v := ?_) (some 51) rfl rfl (by kernel_rfl) (by kernel_rfl) (by kernel_rfl) (by kernel_rfl) (fun _ _ _ h => h) (Or.inl ⟨by rfl, ?_⟩) (by assumption) ?_
      rotate_left
      · (intro w_ hS_; (try dsimp only at hS_); go_simp; try with_reducible rfl)
      try simp only [Act.put, List.setIfInBounds_toArray, List.set_cons_zero, List.set_cons_succ]
      refine till_one (i := 19) (by kernel_rfl) rfl (fun K hK => ?_)
      have kHT := bc0 HT.out
      have fHT := bf0 HT.out
      have yHT := blk_lt HT.out
      go_simp
      clear kHT fHT yHT
      have l29_end := blk_lt HT.out
      have l30_end := blk_lt HM.out
      have l31_end := blk_lt HE1.out
      have l32_end := blk_lt HE2.out
      have l33_end := blk_lt HE3.out
      have l34_end := blk_lt HE4.out
      replace HT : Aside0 (((((((W7).setCell ⟨w.heap.size, 0, none⟩ (.int .i64 s0)).setCell ⟨w.heap.size, 1, none⟩ (.int .i64 s1)).setCell ⟨w.heap.size, 2, none⟩ (.int .i64 s2)).setCell ⟨w.heap.size, 3, none⟩ (.slice sA s3.length sa)).setCell ⟨w.heap.size, 4, none⟩ (.slice sB s4.length sb)).heap[w.heap.size]? = some (.cells #[(.int .i64 s0), (.int .i64 s1), (.int .i64 s2), (.slice sA s3.length sa), (.slice sB s4.length sb)] 25 (0, 0))) := Aside0.mk (blk_put (blk_put (blk_put (blk_put (blk_put HT.out 0 (.int .i64 s0) rfl) 1 (.int .i64 s1) rfl) 2 (.int .i64 s2) rfl) 3 (.slice sA s3.length sa) rfl) 4 (.slice sB s4.length sb) rfl)
      replace HM := Aside0.mk (blk_far (p := ⟨w.heap.size, 4, none⟩) (blk_far (p := ⟨w.heap.size, 3, none⟩) (blk_far (p := ⟨w.heap.size, 2, none⟩) (blk_far (p := ⟨w.heap.size, 1, none⟩) (blk_far (p := ⟨w.heap.size, 0, none⟩) HM.out (show t2 ≠ w.heap.size by omega) (.int .i64 s0)) (show t2 ≠ w.heap.size by omega) (.int .i64 s1)) (show t2 ≠ w.heap.size by omega) (.int .i64 s2)) (show t2 ≠ w.heap.size by omega) (.slice sA s3.length sa)) (show t2 ≠ w.heap.size by omega) (.slice sB s4.length sb))
      replace HE1 := Aside0.mk (blk_far (p := ⟨w.heap.size, 4, none⟩) (blk_far (p := ⟨w.heap.size, 3, none⟩) (blk_far (p := ⟨w.heap.size, 2, none⟩) (blk_far (p := ⟨w.heap.size, 1, none⟩) (blk_far (p := ⟨w.heap.size, 0, none⟩) HE1.out (show t2 + 1 ≠ w.heap.size by omega) (.int .i64 s0)) (show t2 + 1 ≠ w.heap.size by omega) (.int .i64 s1)) (show t2 + 1 ≠ w.heap.size by omega) (.int .i64 s2)) (show t2 + 1 ≠ w.heap.size by omega) (.slice sA s3.length sa)) (show t2 + 1 ≠ w.heap.size by omega) (.slice sB s4.length sb))
      replace HE2 := Aside0.mk (blk_far (p := ⟨w.heap.size, 4, none⟩) (blk_far (p := ⟨w.heap.size, 3, none⟩) (blk_far (p := ⟨w.heap.size, 2, none⟩) (blk_far (p := ⟨w.heap.size, 1, none⟩) (blk_far (p := ⟨w.heap.size, 0, none⟩) HE2.out (show t4 ≠ w.heap.size by omega) (.int .i64 s0)) (show t4 ≠ w.heap.size by omega) (.int .i64 s1)) (show t4 ≠ w.heap.size by omega) (.int .i64 s2)) (show t4 ≠ w.heap.size by omega) (.slice sA s3.length sa)) (show t4 ≠ w.heap.size by omega) (.slice sB s4.length sb))
      replace HE3 := Aside0.mk (blk_far (p := ⟨w.heap.size, 4, none⟩) (blk_far (p := ⟨w.heap.size, 3, none⟩) (blk_far (p := ⟨w.heap.size, 2, none⟩) (blk_far (p := ⟨w.heap.size, 1, none⟩) (blk_far (p := ⟨w.heap.size, 0, none⟩) HE3.out (show t5 ≠ w.heap.size by omega) (.int .i64 s0)) (show t5 ≠ w.heap.size by omega) (.int .i64 s1)) (show t5 ≠ w.heap.size by omega) (.int .i64 s2)) (show t5 ≠ w.heap.size by omega) (.slice sA s3.length sa)) (show t5 ≠ w.heap.size by omega) (.slice sB s4.length sb))
      replace HE4 := Aside0.mk (blk_far (p := ⟨w.heap.size, 4, none⟩) (blk_far (p := ⟨w.heap.size, 3, none⟩) (blk_far (p := ⟨w.heap.size, 2, none⟩) (blk_far (p := ⟨w.heap.size, 1, none⟩) (blk_far (p := ⟨w.heap.size, 0, none⟩) HE4.out (show t6 ≠ w.heap.size by omega) (.int .i64 s0)) (show t6 ≠ w.heap.size by omega) (.int .i64 s1)) (show t6 ≠ w.heap.size by omega) (.int .i64 s2)) (show t6 ≠ w.heap.size by omega) (.slice sA s3.length sa)) (show t6 ≠ w.heap.size by omega) (.slice sB s4.length sb))
      replace HsV := Aside0.mk (Kd.V_far (p := ⟨w.heap.size, 4, none⟩) (Kd.V_far (p := ⟨w.heap.size, 3, none⟩) (Kd.V_far (p := ⟨w.heap.size, 2, none⟩) (Kd.V_far (p := ⟨w.heap.size, 1, none⟩) (Kd.V_far (p := ⟨w.heap.size, 0, none⟩) HsV.out (fun k_ (hk_ : Wnr.heap.size ≤ k_) => by show k_ ≠ w.heap.size; omega) (.int .i64 s0)) (fun k_ (hk_ : Wnr.heap.size ≤ k_) => by show k_ ≠ w.heap.size; omega) (.int .i64 s1)) (fun k_ (hk_ : Wnr.heap.size ≤ k_) => by show k_ ≠ w.heap.size; omega) (.int .i64 s2)) (fun k_ (hk_ : Wnr.heap.size ≤ k_) => by show k_ ≠ w.heap.size; omega) (.slice sA s3.length sa)) (fun k_ (hk_ : Wnr.heap.size ≤ k_) => by show k_ ≠ w.heap.size; omega) (.slice sB s4.length sb))
      replace HsW := Aside0.mk (Kd.V_far (p := ⟨w.heap.size, 4, none⟩) (Kd.V_far (p := ⟨w.heap.size, 3, none⟩) (Kd.V_far (p := ⟨w.heap.size, 2, none⟩) (Kd.V_far (p := ⟨w.heap.size, 1, none⟩) (Kd.V_far (p := ⟨w.heap.size, 0, none⟩) HsW.out (fun k_ (hk_ : Wnr.heap.size ≤ k_) => by show k_ ≠ w.heap.size; omega) (.int .i64 s0)) (fun k_ (hk_ : Wnr.heap.size ≤ k_) => by show k_ ≠ w.heap.size; omega) (.int .i64 s1)) (fun k_ (hk_ : Wnr.heap.size ≤ k_) => by show k_ ≠ w.heap.size; omega) (.int .i64 s2)) (fun k_ (hk_ : Wnr.heap.size ≤ k_) => by show k_ ≠ w.heap.size; omega) (.slice sA s3.length sa)) (fun k_ (hk_ : Wnr.heap.size ≤ k_) => by show k_ ≠ w.heap.size; omega) (.slice sB s4.length sb))
      replace HB := Aside0.mk (below_set (j := 4) (v := (.slice sB s4.length sb)) (below_set (j := 3) (v := (.slice sA s3.length sa)) (below_set (j := 2) (v := (.int .i64 s2)) (below_set (j := 1) (v := (.int .i64 s1)) (below_set (j := 0) (v := (.int .i64 s0)) HB.out (show w.heap.size ≤ w.heap.size by omega)) (show w.heap.size ≤ w.heap.size by omega)) (show w.heap.size ≤ w.heap.size by omega)) (show w.heap.size ≤ w.heap.size by omega)) (show w.heap.size ≤ w.heap.size by omega))
      generalize (((((W7).setCell ⟨w.heap.size, 0, none⟩ (.int .i64 s0)).setCell ⟨w.heap.size, 1, none⟩ (.int .i64 s1)).setCell ⟨w.heap.size, 2, none⟩ (.int .i64 s2)).setCell ⟨w.heap.size, 3, none⟩ (.slice sA s3.length sa)).setCell ⟨w.heap.size, 4, none⟩ (.slice sB s4.length sb) = W8 at *
      refine hK.out _ _ trivial (fun _ _ => ⟨bc0 HM.out 0, bc0 HM.out 1, bc0 HM.out 2, bc0 HM.out 3, bc0 HM.out 4, bc0 HE1.out 0, bc0 HE2.out 0, bc0 HE3.out 0, bc0 HE4.out 0⟩) (fun hTV => ?_)
      clear hK K hTU
      have hTU := hTV (by kernel_rfl) (by decide)
      clear hTV
      try simp only [Act.put, List.setIfInBounds_toArray, List.set_cons_zero, List.set_cons_succ]
      refine till_one (i := 20) (by kernel_rfl) rfl (fun K hK => ?_)
      go_simp
      refine hK.out _ _ trivial (fun _ h => absurd rfl h) (fun _ => ?_)
      clear hK K hTU
      refine till_done (by kernel_rfl) ?_ _
      have kHT := bc0 HT.out
      have fHT := bf0 HT.out
      have yHT := blk_lt HT.out
      go_wp2
      exact bodyPost_ret (v := .tuple #[.agg #[.int .i64 s0, .int .i64 s1, .int .i64 s2, .slice sA s3.length sa, .slice sB s4.length sb], .bool true]) (by simp [results, Tryd.results22, go_sem, kHT, yHT]) rfl ⟨_, _, rfl, Kd.V_mono (Kd.V_lower (base' := w.heap.size) HsV.out (by omega)) (fun k_ (hk_ : Wnr.heap.size ≤ k_) => by omega), Kd.V_mono (Kd.V_lower (base' := w.heap.size) HsW.out (by omega)) (fun k_ (hk_ : Wnr.heap.size ≤ k_) => by omega), HB.out⟩
  · go_simp
    have l4_t4 := blk_lt HT.out
    have l5_t4 := blk_lt HM.out
    have l6_t4 := blk_lt HE1.out
    replace HpV := Aside0.mk (Kd.V_mono (ok' := fun k_ => w2.heap.size ≤ k_ ∧ k_ ≠ W6.heap.size) (Kd.V_elderB HpV.out W6.heap.size (Nat.le_refl _)) (fun k_ hk_ => by have h1_ := hk_.1; have h2_ := hk_.2; omega))
    replace HpW := Aside0.mk (Kd.V_mono (ok' := fun k_ => w2.heap.size ≤ k_ ∧ k_ ≠ W6.heap.size) (Kd.V_elderB HpW.out W6.heap.size (Nat.le_refl _)) (fun k_ hk_ => by have h1_ := hk_.1; have h2_ := hk_.2; omega))
    replace HT := Aside0.mk (blk_later HT.out (.cells #[.int .i64 0, .int .i64 0] 33))
    replace HM := Aside0.mk (blk_later HM.out (.cells #[.int .i64 0, .int .i64 0] 33))
    replace HE1 := Aside0.mk (blk_later HE1.out (.cells #[.int .i64 0, .int .i64 0] 33))
    replace HpV := Aside0.mk (Kd.V_alloc HpV.out (.cells #[.int .i64 0, .int .i64 0] 33))
    replace HpW := Aside0.mk (Kd.V_alloc HpW.out (.cells #[.int .i64 0, .int .i64 0] 33))
    replace HB := Aside0.mk (below_alloc HB.out (.cells #[.int .i64 0, .int .i64 0] 33))
    have HE2 := Aside0.mk (blk_at (w := W6) (.cells #[.int .i64 0, .int .i64 0] 33))
    generalize W6.alloc (.cells #[.int .i64 0, .int .i64 0] 33) = Wt4 at *
    generalize W6.heap.size = t4 at *
    refine hK.out _ _ trivial (fun _ _ => ⟨bc0 HM.out 0, bc0 HM.out 1, bc0 HM.out 2, bc0 HM.out 3, bc0 HM.out 4⟩) (fun hTV => ?_)
    clear hK K hTU
    have hTU := hTV (by kernel_rfl) (by decide)
    clear hTV
    try simp only [Act.put, List.setIfInBounds_toArray, List.set_cons_zero, List.set_cons_succ]
    refine till_one (i := 1) (by kernel_rfl) rfl (fun K hK => ?_)
    go_simp
    go_at_call 41
    refine (posthouselaw8_letter.calls _ fb bb _ LB.out).mono ?_
    rintro e wb ⟨v0_, v1_, rfl, hv0_, hv1_, hb⟩
    obtain ⟨bC, bc, rfl⟩ := Kd.V_slice hv0_
    obtain ⟨bD, bd, rfl⟩ := Kd.V_slice hv1_
    have HLb := Aside0.mk hv0_
    have HKb := Aside0.mk hv1_
    clear hv0_ hv1_
    replace HT := Aside0.mk (blk_call HT.out hb)
    replace HM := Aside0.mk (blk_call HM.out hb)
    replace HE1 := Aside0.mk (blk_call HE1.out hb)
    replace HE2 := Aside0.mk (blk_call HE2.out hb)
    replace HpV := Aside0.mk (Kd.V_below HpV.out hb)
    replace HpW := Aside0.mk (Kd.V_below HpW.out hb)
    replace HB := Aside0.mk (below_step HB.out hb)
    clear hb
    refine hK.out _ _ trivial (fun _ _ => ⟨bc0 HM.out 0, bc0 HM.out 1, bc0 HM.out 2, bc0 HM.out 3, bc0 HM.out 4⟩) (fun hTV => ?_)
    clear hK K hTU
    have hTU := hTV (by kernel_rfl) (by decide)
    clear hTV
    try simp only [Act.put, List.setIfInBounds_toArray, List.set_cons_zero, List.set_cons_succ]
    refine till_freeD (i := 2) (v := ?_) (some 17) rfl rfl (by decide) (by kernel_rfl) (by kernel_rfl) (by kernel_rfl) (fun _ _ _ h => h) (Or.inl ⟨by rfl, ?_⟩) ⟨hTU.1, fun _ => hTU.2⟩ ?_
    rotate_left
    · (intro w_ _; go_simp; try with_reducible rfl)
    try simp only [Act.put, List.setIfInBounds_toArray, List.set_cons_zero, List.set_cons_succ]
    refine till_one (i := 3) (by kernel_rfl) rfl (fun K hK => ?_)
    go_simp
    go_at_call 6
    have l7_cq := blk_lt HT.out
    have l8_cq := blk_lt HM.out
    have l9_cq := blk_lt HE1.out
    have l10_cq := blk_lt HE2.out
    refine (mailbox_Apply.calls k p0 p1 p2 pA pa p3 pB pb p4 1 0 0 0 9 bC bc fb bD bd bb q0 q1 q2 q3 q4 0 0 _ (Kd.F_now (Kd.V_F HpV.out)) (Kd.V_at HpV.out).2.1 (Kd.F_now (Kd.V_F HpW.out)) (Kd.V_at HpW.out).2.1 (Kd.F_now (Kd.V_F HLb.out)) (Kd.V_at HLb.out).2.1 (Kd.F_now (Kd.V_F HKb.out)) (Kd.V_at HKb.out).2.1 H2.out).mono ?_
    rintro e wq ⟨v3_, v4_, rfl, hv3_, hv4_, hb⟩
    obtain ⟨qA, qa, rfl⟩ := Kd.V_slice hv3_
    obtain ⟨qB, qb, rfl⟩ := Kd.V_slice hv4_
    have HqV := Aside0.mk hv3_
    have HqW := Aside0.mk hv4_
    clear hv3_ hv4_
    have hs_q := below_size hb
    replace HT := Aside0.mk (blk_call HT.out hb)
    replace HM := Aside0.mk (blk_call HM.out hb)
    replace HE1 := Aside0.mk (blk_call HE1.out hb)
    replace HE2 := Aside0.mk (blk_call HE2.out hb)
    replace HpV := Aside0.mk (Kd.V_below HpV.out hb)
    replace HpW := Aside0.mk (Kd.V_below HpW.out hb)
    replace HB := Aside0.mk (below_step HB.out hb)
    clear hb
    clear HpV HpW
    clear HLb HKb
    refine hK.out _ _ trivial (fun _ _ => ⟨bc0 HM.out 0, bc0 HM.out 1, bc0 HM.out 2, bc0 HM.out 3, bc0 HM.out 4⟩) (fun hTV => ?_)
    clear hK K hTU
    have hTU := hTV (by kernel_rfl) (by decide)
    clear hTV
    try simp only [Act.put, List.setIfInBounds_toArray, List.set_cons_zero, List.set_cons_succ]
    refine till_freeD (i := 4) (v := ?_) (some 14) rfl rfl (by decide) (by kernel_rfl) (by kernel_rfl) (by kernel_rfl) (fun _ _ _ h => h) (Or.inl ⟨by rfl, ?_⟩) ⟨hTU.1, fun _ => hTU.2⟩ ?_
    rotate_left
    · (intro w_ _; go_simp; try with_reducible rfl)
    try simp only [Act.put, List.setIfInBounds_toArray, List.set_cons_zero, List.set_cons_succ]
    refine till_freeD (i := 5) (v := ?_) (some 19) rfl rfl (by decide) (by kernel_rfl) (by kernel_rfl) (by kernel_rfl) (fun _ _ _ h => h) (Or.inl ⟨by rfl, ?_⟩) ⟨hTU.1, fun _ => hTU.2⟩ ?_
    rotate_left
    · (intro w_ _; go_simp; try with_reducible rfl)
    try simp only [Act.put, List.setIfInBounds_toArray, List.set_cons_zero, List.set_cons_succ]
    refine till_freeD (i := 6) (v := ?_) (some 20) rfl rfl (by decide) (by kernel_rfl) (by kernel_rfl) (by kernel_rfl) (fun _ _ _ h => h) (Or.inl ⟨by rfl, ?_⟩) ⟨hTU.1, fun _ => hTU.2⟩ ?_
    rotate_left
    · (intro w_ _; go_simp; try with_reducible rfl)
    try simp only [Act.put, List.setIfInBounds_toArray, List.set_cons_zero, List.set_cons_succ]
    refine till_one (i := 8) (by kernel_rfl) rfl (fun K hK => ?_)
    have kHM := bc0 HM.out
    have fHM := bf0 HM.out
    have yHM := blk_lt HM.out
    go_simp
    clear kHM fHM yHM
    replace HT := Aside0.mk (blk_far (p := ⟨t2, 4, none⟩) (blk_far (p := ⟨t2, 3, none⟩) (blk_far (p := ⟨t2, 2, none⟩) (blk_far (p := ⟨t2, 1, none⟩) (blk_far (p := ⟨t2, 0, none⟩) HT.out (show w.heap.size ≠ t2 by omega) (.int .i64 q0)) (show w.heap.size ≠ t2 by omega) (.int .i64 q1)) (show w.heap.size ≠ t2 by omega) (.int .i64 q2)) (show w.heap.size ≠ t2 by omega) (.slice qA q3.length qa)) (show w.heap.size ≠ t2 by omega) (.slice qB q4.length qb))
    replace HM : Aside0 (((((((wq).setCell ⟨t2, 0, none⟩ (.int .i64 q0)).setCell ⟨t2, 1, none⟩ (.int .i64 q1)).setCell ⟨t2, 2, none⟩ (.int .i64 q2)).setCell ⟨t2, 3, none⟩ (.slice qA q3.length qa)).setCell ⟨t2, 4, none⟩ (.slice qB q4.length qb)).heap[t2]? = some (.cells #[(.int .i64 q0), (.int .i64 q1), (.int .i64 q2), (.slice qA q3.length qa), (.slice qB q4.length qb)] 25 (0, 0))) := Aside0.mk (blk_put (blk_put (blk_put (blk_put (blk_put HM.out 0 (.int .i64 q0) rfl) 1 (.int .i64 q1) rfl) 2 (.int .i64 q2) rfl) 3 (.slice qA q3.length qa) rfl) 4 (.slice qB q4.length qb) rfl)
    replace HE1 := Aside0.mk (blk_far (p := ⟨t2, 4, none⟩) (blk_far (p := ⟨t2, 3, none⟩) (blk_far (p := ⟨t2, 2, none⟩) (blk_far (p := ⟨t2, 1, none⟩) (blk_far (p := ⟨t2, 0, none⟩) HE1.out (show t2 + 1 ≠ t2 by omega) (.int .i64 q0)) (show t2 + 1 ≠ t2 by omega) (.int .i64 q1)) (show t2 + 1 ≠ t2 by omega) (.int .i64 q2)) (show t2 + 1 ≠ t2 by omega) (.slice qA q3.length qa)) (show t2 + 1 ≠ t2 by omega) (.slice qB q4.length qb))
    replace HE2 := Aside0.mk (blk_far (p := ⟨t2, 4, none⟩) (blk_far (p := ⟨t2, 3, none⟩) (blk_far (p := ⟨t2, 2, none⟩) (blk_far (p := ⟨t2, 1, none⟩) (blk_far (p := ⟨t2, 0, none⟩) HE2.out (show t4 ≠ t2 by omega) (.int .i64 q0)) (show t4 ≠ t2 by omega) (.int .i64 q1)) (show t4 ≠ t2 by omega) (.int .i64 q2)) (show t4 ≠ t2 by omega) (.slice qA q3.length qa)) (show t4 ≠ t2 by omega) (.slice qB q4.length qb))
    replace HqV := Aside0.mk (Kd.V_far (p := ⟨t2, 4, none⟩) (Kd.V_far (p := ⟨t2, 3, none⟩) (Kd.V_far (p := ⟨t2, 2, none⟩) (Kd.V_far (p := ⟨t2, 1, none⟩) (Kd.V_far (p := ⟨t2, 0, none⟩) HqV.out (fun k_ (hk_ : wb.heap.size ≤ k_) => by show k_ ≠ t2; omega) (.int .i64 q0)) (fun k_ (hk_ : wb.heap.size ≤ k_) => by show k_ ≠ t2; omega) (.int .i64 q1)) (fun k_ (hk_ : wb.heap.size ≤ k_) => by show k_ ≠ t2; omega) (.int .i64 q2)) (fun k_ (hk_ : wb.heap.size ≤ k_) => by show k_ ≠ t2; omega) (.slice qA q3.length qa)) (fun k_ (hk_ : wb.heap.size ≤ k_) => by show k_ ≠ t2; omega) (.slice qB q4.length qb))
    replace HqW := Aside0.mk (Kd.V_far (p := ⟨t2, 4, none⟩) (Kd.V_far (p := ⟨t2, 3, none⟩) (Kd.V_far (p := ⟨t2, 2, none⟩) (Kd.V_far (p := ⟨t2, 1, none⟩) (Kd.V_far (p := ⟨t2, 0, none⟩) HqW.out (fun k_ (hk_ : wb.heap.size ≤ k_) => by show k_ ≠ t2; omega) (.int .i64 q0)) (fun k_ (hk_ : wb.heap.size ≤ k_) => by show k_ ≠ t2; omega) (.int .i64 q1)) (fun k_ (hk_ : wb.heap.size ≤ k_) => by show k_ ≠ t2; omega) (.int .i64 q2)) (fun k_ (hk_ : wb.heap.size ≤ k_) => by show k_ ≠ t2; omega) (.slice qA q3.length qa)) (fun k_ (hk_ : wb.heap.size ≤ k_) => by show k_ ≠ t2; omega) (.slice qB q4.length qb))
    replace HB := Aside0.mk (below_set (j := 4) (v := (.slice qB q4.length qb)) (below_set (j := 3) (v := (.slice qA q3.length qa)) (below_set (j := 2) (v := (.int .i64 q2)) (below_set (j := 1) (v := (.int .i64 q1)) (below_set (j := 0) (v := (.int .i64 q0)) HB.out (show w.heap.size ≤ t2 by omega)) (show w.heap.size ≤ t2 by omega)) (show w.heap.size ≤ t2 by omega)) (show w.heap.size ≤ t2 by omega)) (show w.heap.size ≤ t2 by omega))
    generalize (((((wq).setCell ⟨t2, 0, none⟩ (.int .i64 q0)).setCell ⟨t2, 1, none⟩ (.int .i64 q1)).setCell ⟨t2, 2, none⟩ (.int .i64 q2)).setCell ⟨t2, 3, none⟩ (.slice qA q3.length qa)).setCell ⟨t2, 4, none⟩ (.slice qB q4.length qb) = Ws at *
    refine hK.out _ _ trivial (fun _ h => absurd rfl h) (fun _ => ?_)
    clear hK K hTU
    try simp only [Act.put, List.setIfInBounds_toArray, List.set_cons_zero, List.set_cons_succ]
    refine till_one (i := 9) (by kernel_rfl) rfl (fun K hK => ?_)
    have kHE2 := bc0 HE2.out
    have fHE2 := bf0 HE2.out
    have yHE2 := blk_lt HE2.out
    go_simp
    clear kHE2 fHE2 yHE2
    replace HT := Aside0.mk (blk_far (p := ⟨t4, 1, none⟩) (blk_far (p := ⟨t4, 0, none⟩) HT.out (show w.heap.size ≠ t4 by omega) (.int .i64 0)) (show w.heap.size ≠ t4 by omega) (.int .i64 0))
    replace HM := Aside0.mk (blk_far (p := ⟨t4, 1, none⟩) (blk_far (p := ⟨t4, 0, none⟩) HM.out (show t2 ≠ t4 by omega) (.int .i64 0)) (show t2 ≠ t4 by omega) (.int .i64 0))
    replace HE1 := Aside0.mk (blk_far (p := ⟨t4, 1, none⟩) (blk_far (p := ⟨t4, 0, none⟩) HE1.out (show t2 + 1 ≠ t4 by omega) (.int .i64 0)) (show t2 + 1 ≠ t4 by omega) (.int .i64 0))
    replace HE2 : Aside0 ((((Ws).setCell ⟨t4, 0, none⟩ (.int .i64 0)).setCell ⟨t4, 1, none⟩ (.int .i64 0)).heap[t4]? = some (.cells #[(.int .i64 0), (.int .i64 0)] 33 (0, 0))) := Aside0.mk (blk_put (blk_put HE2.out 0 (.int .i64 0) rfl) 1 (.int .i64 0) rfl)
    replace HqV := Aside0.mk (Kd.V_far (p := ⟨t4, 1, none⟩) (Kd.V_far (p := ⟨t4, 0, none⟩) HqV.out (fun k_ (hk_ : wb.heap.size ≤ k_) => by show k_ ≠ t4; omega) (.int .i64 0)) (fun k_ (hk_ : wb.heap.size ≤ k_) => by show k_ ≠ t4; omega) (.int .i64 0))
    replace HqW := Aside0.mk (Kd.V_far (p := ⟨t4, 1, none⟩) (Kd.V_far (p := ⟨t4, 0, none⟩) HqW.out (fun k_ (hk_ : wb.heap.size ≤ k_) => by show k_ ≠ t4; omega) (.int .i64 0)) (fun k_ (hk_ : wb.heap.size ≤ k_) => by show k_ ≠ t4; omega) (.int .i64 0))
    replace HB := Aside0.mk (below_set (j := 1) (v := (.int .i64 0)) (below_set (j := 0) (v := (.int .i64 0)) HB.out (show w.heap.size ≤ t4 by omega)) (show w.heap.size ≤ t4 by omega))
    generalize ((Ws).setCell ⟨t4, 0, none⟩ (.int .i64 0)).setCell ⟨t4, 1, none⟩ (.int .i64 0) = We at *
    refine hK.out _ _ trivial (fun h_ => by have h9_ := h_.symm.trans (show _ = true from by kernel_rfl); cases h9_) (fun _ => ?_)
    clear hK K
    try simp only [Act.put, List.setIfInBounds_toArray, List.set_cons_zero, List.set_cons_succ]
    refine till_done (by kernel_rfl) ?_ _
    have kHM := bc0 HM.out
    have fHM := bf0 HM.out
    have yHM := blk_lt HM.out
    go_wp2_with fail
    clear kHM fHM yHM
    have l11_cr := blk_lt HT.out
    have l12_cr := blk_lt HM.out
    have l13_cr := blk_lt HE1.out
    have l14_cr := blk_lt HE2.out
    refine (mailbox_Apply.calls k q0 q1 q2 qA qa q3 qB qb q4 2 2 1 0 0 none 0 [] none 0 [] r0 r1 r2 r3 r4 0 0 _ (Kd.F_now (Kd.V_F HqV.out)) (Kd.V_at HqV.out).2.1 (Kd.F_now (Kd.V_F HqW.out)) (Kd.V_at HqW.out).2.1 (Kd.C_nil k77 _) (Nat.le_refl _) (Kd.C_nil (Kd.int .u8) _) (Nat.le_refl _) H3.out).mono ?_
    rintro e wr ⟨v3_, v4_, rfl, hv3_, hv4_, hb⟩
    obtain ⟨rA, ra, rfl⟩ := Kd.V_slice hv3_
    obtain ⟨rB, rb, rfl⟩ := Kd.V_slice hv4_
    have HrV := Aside0.mk hv3_
    have HrW := Aside0.mk hv4_
    clear hv3_ hv4_
    have hs_r := below_size hb
    replace HT := Aside0.mk (blk_call HT.out hb)
    replace HM := Aside0.mk (blk_call HM.out hb)
    replace HE1 := Aside0.mk (blk_call HE1.out hb)
    replace HE2 := Aside0.mk (blk_call HE2.out hb)
    replace HqV := Aside0.mk (Kd.V_below HqV.out hb)
    replace HqW := Aside0.mk (Kd.V_below HqW.out hb)
    replace HB := Aside0.mk (below_step HB.out hb)
    clear hb
    clear HqV HqW
    have kHM := bc0 HM.out
    have fHM := bf0 HM.out
    have yHM := blk_lt HM.out
    go_wp2_with fail
    clear kHM fHM yHM
    replace HT := Aside0.mk (blk_far (p := ⟨t2, 4, none⟩) (blk_far (p := ⟨t2, 3, none⟩) (blk_far (p := ⟨t2, 2, none⟩) (blk_far (p := ⟨t2, 1, none⟩) (blk_far (p := ⟨t2, 0, none⟩) HT.out (show w.heap.size ≠ t2 by omega) (.int .i64 r0)) (show w.heap.size ≠ t2 by omega) (.int .i64 r1)) (show w.heap.size ≠ t2 by omega) (.int .i64 r2)) (show w.heap.size ≠ t2 by omega) (.slice rA r3.length ra)) (show w.heap.size ≠ t2 by omega) (.slice rB r4.length rb))
    replace HM : Aside0 (((((((wr).setCell ⟨t2, 0, none⟩ (.int .i64 r0)).setCell ⟨t2, 1, none⟩ (.int .i64 r1)).setCell ⟨t2, 2, none⟩ (.int .i64 r2)).setCell ⟨t2, 3, none⟩ (.slice rA r3.length ra)).setCell ⟨t2, 4, none⟩ (.slice rB r4.length rb)).heap[t2]? = some (.cells #[(.int .i64 r0), (.int .i64 r1), (.int .i64 r2), (.slice rA r3.length ra), (.slice rB r4.length rb)] 25 (0, 0))) := Aside0.mk (blk_put (blk_put (blk_put (blk_put (blk_put HM.out 0 (.int .i64 r0) rfl) 1 (.int .i64 r1) rfl) 2 (.int .i64 r2) rfl) 3 (.slice rA r3.length ra) rfl) 4 (.slice rB r4.length rb) rfl)
    replace HE1 := Aside0.mk (blk_far (p := ⟨t2, 4, none⟩) (blk_far (p := ⟨t2, 3, none⟩) (blk_far (p := ⟨t2, 2, none⟩) (blk_far (p := ⟨t2, 1, none⟩) (blk_far (p := ⟨t2, 0, none⟩) HE1.out (show t2 + 1 ≠ t2 by omega) (.int .i64 r0)) (show t2 + 1 ≠ t2 by omega) (.int .i64 r1)) (show t2 + 1 ≠ t2 by omega) (.int .i64 r2)) (show t2 + 1 ≠ t2 by omega) (.slice rA r3.length ra)) (show t2 + 1 ≠ t2 by omega) (.slice rB r4.length rb))
    replace HE2 := Aside0.mk (blk_far (p := ⟨t2, 4, none⟩) (blk_far (p := ⟨t2, 3, none⟩) (blk_far (p := ⟨t2, 2, none⟩) (blk_far (p := ⟨t2, 1, none⟩) (blk_far (p := ⟨t2, 0, none⟩) HE2.out (show t4 ≠ t2 by omega) (.int .i64 r0)) (show t4 ≠ t2 by omega) (.int .i64 r1)) (show t4 ≠ t2 by omega) (.int .i64 r2)) (show t4 ≠ t2 by omega) (.slice rA r3.length ra)) (show t4 ≠ t2 by omega) (.slice rB r4.length rb))
    replace HrV := Aside0.mk (Kd.V_far (p := ⟨t2, 4, none⟩) (Kd.V_far (p := ⟨t2, 3, none⟩) (Kd.V_far (p := ⟨t2, 2, none⟩) (Kd.V_far (p := ⟨t2, 1, none⟩) (Kd.V_far (p := ⟨t2, 0, none⟩) HrV.out (fun k_ (hk_ : We.heap.size ≤ k_) => by show k_ ≠ t2; omega) (.int .i64 r0)) (fun k_ (hk_ : We.heap.size ≤ k_) => by show k_ ≠ t2; omega) (.int .i64 r1)) (fun k_ (hk_ : We.heap.size ≤ k_) => by show k_ ≠ t2; omega) (.int .i64 r2)) (fun k_ (hk_ : We.heap.size ≤ k_) => by show k_ ≠ t2; omega) (.slice rA r3.length ra)) (fun k_ (hk_ : We.heap.size ≤ k_) => by show k_ ≠ t2; omega) (.slice rB r4.length rb))
    replace HrW := Aside0.mk (Kd.V_far (p := ⟨t2, 4, none⟩) (Kd.V_far (p := ⟨t2, 3, none⟩) (Kd.V_far (p := ⟨t2, 2, none⟩) (Kd.V_far (p := ⟨t2, 1, none⟩) (Kd.V_far (p := ⟨t2, 0, none⟩) HrW.out (fun k_ (hk_ : We.heap.size ≤ k_) => by show k_ ≠ t2; omega) (.int .i64 r0)) (fun k_ (hk_ : We.heap.size ≤ k_) => by show k_ ≠ t2; omega) (.int .i64 r1)) (fun k_ (hk_ : We.heap.size ≤ k_) => by show k_ ≠ t2; omega) (.int .i64 r2)) (fun k_ (hk_ : We.heap.size ≤ k_) => by show k_ ≠ t2; omega) (.slice rA r3.length ra)) (fun k_ (hk_ : We.heap.size ≤ k_) => by show k_ ≠ t2; omega) (.slice rB r4.length rb))
    replace HB := Aside0.mk (below_set (j := 4) (v := (.slice rB r4.length rb)) (below_set (j := 3) (v := (.slice rA r3.length ra)) (below_set (j := 2) (v := (.int .i64 r2)) (below_set (j := 1) (v := (.int .i64 r1)) (below_set (j := 0) (v := (.int .i64 r0)) HB.out (show w.heap.size ≤ t2 by omega)) (show w.heap.size ≤ t2 by omega)) (show w.heap.size ≤ t2 by omega)) (show w.heap.size ≤ t2 by omega)) (show w.heap.size ≤ t2 by omega))
    have hp_r : ((((((wr).setCell ⟨t2, 0, none⟩ (.int .i64 r0)).setCell ⟨t2, 1, none⟩ (.int .i64 r1)).setCell ⟨t2, 2, none⟩ (.int .i64 r2)).setCell ⟨t2, 3, none⟩ (.slice rA r3.length ra)).setCell ⟨t2, 4, none⟩ (.slice rB r4.length rb)).heap.size = wr.heap.size := by simp
    generalize (((((wr).setCell ⟨t2, 0, none⟩ (.int .i64 r0)).setCell ⟨t2, 1, none⟩ (.int .i64 r1)).setCell ⟨t2, 2, none⟩ (.int .i64 r2)).setCell ⟨t2, 3, none⟩ (.slice rA r3.length ra)).setCell ⟨t2, 4, none⟩ (.slice rB r4.length rb) = Wmr at *
    have l15_t5 := blk_lt HT.out
    have l16_t5 := blk_lt HM.out
    have l17_t5 := blk_lt HE1.out
    have l18_t5 := blk_lt HE2.out
    replace HT := Aside0.mk (blk_later HT.out (.cells #[.int .i64 0, .int .i64 0] 33))
    replace HM := Aside0.mk (blk_later HM.out (.cells #[.int .i64 0, .int .i64 0] 33))
    replace HE1 := Aside0.mk (blk_later HE1.out (.cells #[.int .i64 0, .int .i64 0] 33))
    replace HE2 := Aside0.mk (blk_later HE2.out (.cells #[.int .i64 0, .int .i64 0] 33))
    replace HrV := Aside0.mk (Kd.V_alloc HrV.out (.cells #[.int .i64 0, .int .i64 0] 33))
    replace HrW := Aside0.mk (Kd.V_alloc HrW.out (.cells #[.int .i64 0, .int .i64 0] 33))
    replace HB := Aside0.mk (below_alloc HB.out (.cells #[.int .i64 0, .int .i64 0] 33))
    have HE3 := Aside0.mk (blk_at (w := Wmr) (.cells #[.int .i64 0, .int .i64 0] 33))
    rw [hp_r] at HE3 l15_t5 l16_t5 l17_t5 l18_t5
    clear hp_r
    generalize Wmr.alloc (.cells #[.int .i64 0, .int .i64 0] 33) = Wnr at *
    generalize wr.heap.size = t5 at *
    have kHM := bc0 HM.out
    have fHM := bf0 HM.out
    have yHM := blk_lt HM.out
    go_wp2_with fail
    clear kHM fHM yHM
    have l19_cs := blk_lt HT.out
    have l20_cs := blk_lt HM.out
    have l21_cs := blk_lt HE1.out
    have l22_cs := blk_lt HE2.out
    have l23_cs := blk_lt HE3.out
    refine (mailbox_Apply.calls k r0 r1 r2 rA ra r3 rB rb r4 3 1 0 0 0 none 0 [] none 0 [] s0 s1 s2 s3 s4 0 0 _ (Kd.F_now (Kd.V_F HrV.out)) (Kd.V_at HrV.out).2.1 (Kd.F_now (Kd.V_F HrW.out)) (Kd.V_at HrW.out).2.1 (Kd.C_nil k77 _) (Nat.le_refl _) (Kd.C_nil (Kd.int .u8) _) (Nat.le_refl _) H4.out).mono ?_
    rintro e ws ⟨v3_, v4_, rfl, hv3_, hv4_, hb⟩
    obtain ⟨sA, sa, rfl⟩ := Kd.V_slice hv3_
    obtain ⟨sB, sb, rfl⟩ := Kd.V_slice hv4_
    have HsV := Aside0.mk hv3_
    have HsW := Aside0.mk hv4_
    clear hv3_ hv4_
    have hs_s := below_size hb
    replace HT := Aside0.mk (blk_call HT.out hb)
    replace HM := Aside0.mk (blk_call HM.out hb)
    replace HE1 := Aside0.mk (blk_call HE1.out hb)
    replace HE2 := Aside0.mk (blk_call HE2.out hb)
    replace HE3 := Aside0.mk (blk_call HE3.out hb)
    replace HrV := Aside0.mk (Kd.V_below HrV.out hb)
    replace HrW := Aside0.mk (Kd.V_below HrW.out hb)
    replace HB := Aside0.mk (below_step HB.out hb)
    clear hb
    clear HrV HrW
    have kHM := bc0 HM.out
    have fHM := bf0 HM.out
    have yHM := blk_lt HM.out
    go_wp2
    clear kHM fHM yHM
    replace HT := Aside0.mk (blk_far (p := ⟨t2, 4, none⟩) (blk_far (p := ⟨t2, 3, none⟩) (blk_far (p := ⟨t2, 2, none⟩) (blk_far (p := ⟨t2, 1, none⟩) (blk_far (p := ⟨t2, 0, none⟩) HT.out (show w.heap.size ≠ t2 by omega) (.int .i64 s0)) (show w.heap.size ≠ t2 by omega) (.int .i64 s1)) (show w.heap.size ≠ t2 by omega) (.int .i64 s2)) (show w.heap.size ≠ t2 by omega) (.slice sA s3.length sa)) (show w.heap.size ≠ t2 by omega) (.slice sB s4.length sb))
    replace HM : Aside0 (((((((ws).setCell ⟨t2, 0, none⟩ (.int .i64 s0)).setCell ⟨t2, 1, none⟩ (.int .i64 s1)).setCell ⟨t2, 2, none⟩ (.int .i64 s2)).setCell ⟨t2, 3, none⟩ (.slice sA s3.length sa)).setCell ⟨t2, 4, none⟩ (.slice sB s4.length sb)).heap[t2]? = some (.cells #[(.int .i64 s0), (.int .i64 s1), (.int .i64 s2), (.slice sA s3.length sa), (.slice sB s4.length sb)] 25 (0, 0))) := Aside0.mk (blk_put (blk_put (blk_put (blk_put (blk_put HM.out 0 (.int .i64 s0) rfl) 1 (.int .i64 s1) rfl) 2 (.int .i64 s2) rfl) 3 (.slice sA s3.length sa) rfl) 4 (.slice sB s4.length sb) rfl)
    replace HE1 := Aside0.mk (blk_far (p := ⟨t2, 4, none⟩) (blk_far (p := ⟨t2, 3, none⟩) (blk_far (p := ⟨t2, 2, none⟩) (blk_far (p := ⟨t2, 1, none⟩) (blk_far (p := ⟨t2, 0, none⟩) HE1.out (show t2 + 1 ≠ t2 by omega) (.int .i64 s0)) (show t2 + 1 ≠ t2 by omega) (.int .i64 s1)) (show t2 + 1 ≠ t2 by omega) (.int .i64 s2)) (show t2 + 1 ≠ t2 by omega) (.slice sA s3.length sa)) (show t2 + 1 ≠ t2 by omega) (.slice sB s4.length sb))
    replace HE2 := Aside0.mk (blk_far (p := ⟨t2, 4, none⟩) (blk_far (p := ⟨t2, 3, none⟩) (blk_far (p := ⟨t2, 2, none⟩) (blk_far (p := ⟨t2, 1, none⟩) (blk_far (p := ⟨t2, 0, none⟩) HE2.out (show t4 ≠ t2 by omega) (.int .i64 s0)) (show t4 ≠ t2 by omega) (.int .i64 s1)) (show t4 ≠ t2 by omega) (.int .i64 s2)) (show t4 ≠ t2 by omega) (.slice sA s3.length sa)) (show t4 ≠ t2 by omega) (.slice sB s4.length sb))
    replace HE3 := Aside0.mk (blk_far (p := ⟨t2, 4, none⟩) (blk_far (p := ⟨t2, 3, none⟩) (blk_far (p := ⟨t2, 2, none⟩) (blk_far (p := ⟨t2, 1, none⟩) (blk_far (p := ⟨t2, 0, none⟩) HE3.out (show t5 ≠ t2 by omega) (.int .i64 s0)) (show t5 ≠ t2 by omega) (.int .i64 s1)) (show t5 ≠ t2 by omega) (.int .i64 s2)) (show t5 ≠ t2 by omega) (.slice sA s3.length sa)) (show t5 ≠ t2 by omega) (.slice sB s4.length sb))
    replace HsV := Aside0.mk (Kd.V_far (p := ⟨t2, 4, none⟩) (Kd.V_far (p := ⟨t2, 3, none⟩) (Kd.V_far (p := ⟨t2, 2, none⟩) (Kd.V_far (p := ⟨t2, 1, none⟩) (Kd.V_far (p := ⟨t2, 0, none⟩) HsV.out (fun k_ (hk_ : Wnr.heap.size ≤ k_) => by show k_ ≠ t2; omega) (.int .i64 s0)) (fun k_ (hk_ : Wnr.heap.size ≤ k_) => by show k_ ≠ t2; omega) (.int .i64 s1)) (fun k_ (hk_ : Wnr.heap.size ≤ k_) => by show k_ ≠ t2; omega) (.int .i64 s2)) (fun k_ (hk_ : Wnr.heap.size ≤ k_) => by show k_ ≠ t2; omega) (.slice sA s3.length sa)) (fun k_ (hk_ : Wnr.heap.size ≤ k_) => by show k_ ≠ t2; omega) (.slice sB s4.length sb))
    replace HsW := Aside0.mk (Kd.V_far (p := ⟨t2, 4, none⟩) (Kd.V_far (p := ⟨t2, 3, none⟩) (Kd.V_far (p := ⟨t2, 2, none⟩) (Kd.V_far (p := ⟨t2, 1, none⟩) (Kd.V_far (p := ⟨t2, 0, none⟩) HsW.out (fun k_ (hk_ : Wnr.heap.size ≤ k_) => by show k_ ≠ t2; omega) (.int .i64 s0)) (fun k_ (hk_ : Wnr.heap.size ≤ k_) => by show k_ ≠ t2; omega) (.int .i64 s1)) (fun k_ (hk_ : Wnr.heap.size ≤ k_) => by show k_ ≠ t2; omega) (.int .i64 s2)) (fun k_ (hk_ : Wnr.heap.size ≤ k_) => by show k_ ≠ t2; omega) (.slice sA s3.length sa)) (fun k_ (hk_ : Wnr.heap.size ≤ k_) => by show k_ ≠ t2; omega) (.slice sB s4.length sb))
    replace HB := Aside0.mk (below_set (j := 4) (v := (.slice sB s4.length sb)) (below_set (j := 3) (v := (.slice sA s3.length sa)) (below_set (j := 2) (v := (.int .i64 s2)) (below_set (j := 1) (v := (.int .i64 s1)) (below_set (j := 0) (v := (.int .i64 s0)) HB.out (show w.heap.size ≤ t2 by omega)) (show w.heap.size ≤ t2 by omega)) (show w.heap.size ≤ t2 by omega)) (show w.heap.size ≤ t2 by omega)) (show w.heap.size ≤ t2 by omega))
    have hp_s : ((((((ws).setCell ⟨t2, 0, none⟩ (.int .i64 s0)).setCell ⟨t2, 1, none⟩ (.int .i64 s1)).setCell ⟨t2, 2, none⟩ (.int .i64 s2)).setCell ⟨t2, 3, none⟩ (.slice sA s3.length sa)).setCell ⟨t2, 4, none⟩ (.slice sB s4.length sb)).heap.size = ws.heap.size := by simp
    generalize (((((ws).setCell ⟨t2, 0, none⟩ (.int .i64 s0)).setCell ⟨t2, 1, none⟩ (.int .i64 s1)).setCell ⟨t2, 2, none⟩ (.int .i64 s2)).setCell ⟨t2, 3, none⟩ (.slice sA s3.length sa)).setCell ⟨t2, 4, none⟩ (.slice sB s4.length sb) = Wms at *
    have l24_t6 := blk_lt HT.out
    have l25_t6 := blk_lt HM.out
    have l26_t6 := blk_lt HE1.out
    have l27_t6 := blk_lt HE2.out
    have l28_t6 := blk_lt HE3.out
    replace HT := Aside0.mk (blk_later HT.out (.cells #[.int .i64 0, .int .i64 0] 33))
    replace HM := Aside0.mk (blk_later HM.out (.cells #[.int .i64 0, .int .i64 0] 33))
    replace HE1 := Aside0.mk (blk_later HE1.out (.cells #[.int .i64 0, .int .i64 0] 33))
    replace HE2 := Aside0.mk (blk_later HE2.out (.cells #[.int .i64 0, .int .i64 0] 33))
    replace HE3 := Aside0.mk (blk_later HE3.out (.cells #[.int .i64 0, .int .i64 0] 33))
    replace HsV := Aside0.mk (Kd.V_alloc HsV.out (.cells #[.int .i64 0, .int .i64 0] 33))
    replace HsW := Aside0.mk (Kd.V_alloc HsW.out (.cells #[.int .i64 0, .int .i64 0] 33))
    replace HB := Aside0.mk (below_alloc HB.out (.cells #[.int .i64 0, .int .i64 0] 33))
    have HE4 := Aside0.mk (blk_at (w := Wms) (.cells #[.int .i64 0, .int .i64 0] 33))
    rw [hp_s] at HE4 l24_t6 l25_t6 l26_t6 l27_t6 l28_t6
    clear hp_s
    generalize Wms.alloc (.cells #[.int .i64 0, .int .i64 0] 33) = Wns at *
    generalize ws.heap.size = t6 at *
    refine region_till 20 (fun _ => True) (fun w' : World => w'.cell? ⟨t2, 0, none⟩ = some (.int .i64 s0) ∧ w'.cell? ⟨t2, 1, none⟩ = some (.int .i64 s1) ∧ w'.cell? ⟨t2, 2, none⟩ = some (.int .i64 s2) ∧ w'.cell? ⟨t2, 3, none⟩ = some (.slice sA s3.length sa) ∧ w'.cell? ⟨t2, 4, none⟩ = some (.slice sB s4.length sb) ∧ w'.cell? ⟨t2 + 1, 0, none⟩ = some (.int .i64 0) ∧ w'.cell? ⟨t4, 0, none⟩ = some (.int .i64 0) ∧ w'.cell? ⟨t5, 0, none⟩ = some (.int .i64 0) ∧ w'.cell? ⟨t6, 0, none⟩ = some (.int .i64 0)) (by kernel_rfl) ⟨trivial, ⟨bc0 (blk_drew HM.out) 0, bc0 (blk_drew HM.out) 1, bc0 (blk_drew HM.out) 2, bc0 (blk_drew HM.out) 3, bc0 (blk_drew HM.out) 4, bc0 (blk_drew HE1.out) 0, bc0 (blk_drew HE2.out) 0, bc0 (blk_drew HE3.out) 0, bc0 (blk_drew HE4.out) 0⟩⟩ (fun hTU => ?_)
    replace HT := Aside0.mk (blk_drew HT.out)
    replace HM := Aside0.mk (blk_drew HM.out)
    replace HE1 := Aside0.mk (blk_drew HE1.out)
    replace HE2 := Aside0.mk (blk_drew HE2.out)
    replace HE3 := Aside0.mk (blk_drew HE3.out)
    replace HE4 := Aside0.mk (blk_drew HE4.out)
    replace HsV := Aside0.mk (Kd.V_drew HsV.out)
    replace HsW := Aside0.mk (Kd.V_drew HsW.out)
    replace HB := Aside0.mk (below_drew1 HB.out)
    generalize Wns.drew = W7 at *
    refine till_takeD (i := 0) (v := ?_) (some 33) rfl rfl (by kernel_rfl) (by kernel_rfl) (by kernel_rfl) (by kernel_rfl) (fun _ _ _ h => h) (Or.inl ⟨by rfl, ?_⟩) (by assumption) ?_
    rotate_left
    · (intro w_ hS_; (try dsimp only at hS_); go_simp; try with_reducible rfl)
    try simp only [Act.put, List.setIfInBounds_toArray, List.set_cons_zero, List.set_cons_succ]
    refine till_takeD (i := 1) (v := ?_) (some 34) rfl rfl (by kernel_rfl) (by kernel_rfl) (by kernel_rfl) (by kernel_rfl) (fun _ _ _ h => h) (Or.inl ⟨by rfl, ?_⟩) (by assumption) ?_
    rotate_left
    · (intro w_ hS_; (try dsimp only at hS_); go_simp; try with_reducible rfl)
    try simp only [Act.put, List.setIfInBounds_toArray, List.set_cons_zero, List.set_cons_succ]
    refine till_takeD (i := 2) (v := ?_) (some 35) rfl rfl (by kernel_rfl) (by kernel_rfl) (by kernel_rfl) (by kernel_rfl) (fun _ _ _ h => h) (Or.inl ⟨by rfl, ?_⟩) (by assumption) ?_
    rotate_left
    · (intro w_ hS_; (try dsimp only at hS_); go_simp; try with_reducible rfl)
    try simp only [Act.put, List.setIfInBounds_toArray, List.set_cons_zero, List.set_cons_succ]
    refine till_takeD (i := 3) (v := ?_) (some 36) rfl rfl (by kernel_rfl) (by kernel_rfl) (by kernel_rfl) (by kernel_rfl) (fun _ _ _ h => h) (Or.inl ⟨by rfl, ?_⟩) (by assumption) ?_
    rotate_left
    · (intro w_ hS_; (try dsimp only at hS_); go_simp; try with_reducible rfl)
    try simp only [Act.put, List.setIfInBounds_toArray, List.set_cons_zero, List.set_cons_succ]
    refine till_takeD (i := 4) (v := ?_) (some 37) rfl rfl (by kernel_rfl) (by kernel_rfl) (by kernel_rfl) (by kernel_rfl) (fun _ _ _ h => h) (Or.inl ⟨by rfl, ?_⟩) (by assumption) ?_
    rotate_left
    · (intro w_ hS_; (try dsimp only at hS_); go_simp; try with_reducible rfl)
    try simp only [Act.put, List.setIfInBounds_toArray, List.set_cons_zero, List.set_cons_succ]
    refine till_takeD (i := 5) (v := ?_) (some 38) rfl rfl (by kernel_rfl) (by kernel_rfl) (by kernel_rfl) (by kernel_rfl) (fun _ _ _ h => h) (Or.inl ⟨by rfl, ?_⟩) (by assumption) ?_
    rotate_left
    · (intro w_ hS_; (try dsimp only at hS_); go_simp; try with_reducible rfl)
    try simp only [Act.put, List.setIfInBounds_toArray, List.set_cons_zero, List.set_cons_succ]
    refine till_takeD (i := 6) (v := ?_) (some 39) rfl rfl (by kernel_rfl) (by kernel_rfl) (by kernel_rfl) (by kernel_rfl) (fun _ _ _ h => h) (Or.inl ⟨by rfl, ?_⟩) (by assumption) ?_
    rotate_left
    · (intro w_ hS_; (try dsimp only at hS_); go_simp; try with_reducible rfl)
    try simp only [Act.put, List.setIfInBounds_toArray, List.set_cons_zero, List.set_cons_succ]
    refine till_takeD (i := 7) (v := ?_) (some 40) rfl rfl (by kernel_rfl) (by kernel_rfl) (by kernel_rfl) (by kernel_rfl) (fun _ _ _ h => h) (Or.inl ⟨by rfl, ?_⟩) (by assumption) ?_
    rotate_left
    · (intro w_ hS_; (try dsimp only at hS_); go_simp; try with_reducible rfl)
    try simp only [Act.put, List.setIfInBounds_toArray, List.set_cons_zero, List.set_cons_succ]
    refine till_takeD (i := 8) (v := ?_) (some 41) rfl rfl (by kernel_rfl) (by kernel_rfl) (by kernel_rfl) (by kernel_rfl) (fun _ _ _ h => h) (Or.inl ⟨by rfl, ?_⟩) (by assumption) ?_
    rotate_left
    · (intro w_ hS_; (try dsimp only at hS_); go_simp; try with_reducible rfl)
    try simp only [Act.put, List.setIfInBounds_toArray, List.set_cons_zero, List.set_cons_succ]
    refine till_takeD (i := 9) (v := ?_) (some 42) rfl rfl (by kernel_rfl) (by kernel_rfl) (by kernel_rfl) (by kernel_rfl) (fun _ _ _ h => h) (Or.inl ⟨by rfl, ?_⟩) (by assumption) ?_
    rotate_left
    · (intro w_ hS_; (try dsimp only at hS_); go_simp; try with_reducible rfl)
    try simp only [Act.put, List.setIfInBounds_toArray, List.set_cons_zero, List.set_cons_succ]
    refine till_takeD (i := 10) (v := ?_) (some 43) rfl rfl (by kernel_rfl) (by kernel_rfl) (by kernel_rfl) (by kernel_rfl) (fun _ _ _ h => h) (Or.inl ⟨by rfl, ?_⟩) (by assumption) ?_
    rotate_left
    · (intro w_ hS_; (try dsimp only at hS_); go_simp; try with_reducible rfl)
    try simp only [Act.put, List.setIfInBounds_toArray, List.set_cons_zero, List.set_cons_succ]
    refine till_takeD (i := 11) (v := ?_) (some 44) rfl rfl (by kernel_rfl) (by kernel_rfl) (by kernel_rfl) (by kernel_rfl) (fun _ _ _ h => h) (Or.inl ⟨by rfl, ?_⟩) (by assumption) ?_
    rotate_left
    · (intro w_ hS_; (try dsimp only at hS_); go_simp; try with_reducible rfl)
    try simp only [Act.put, List.setIfInBounds_toArray, List.set_cons_zero, List.set_cons_succ]
    refine till_takeD (i := 12) (v := ?_) (some 45) rfl rfl (by kernel_rfl) (by kernel_rfl) (by kernel_rfl) (by kernel_rfl) (fun _ _ _ h => h) (Or.inl ⟨by rfl, ?_⟩) (by assumption) ?_
    rotate_left
    · (intro w_ hS_; (try dsimp only at hS_); go_simp; try with_reducible rfl)
    try simp only [Act.put, List.setIfInBounds_toArray, List.set_cons_zero, List.set_cons_succ]
    refine till_takeD (i := 13) (v := ?_) (some 46) rfl rfl (by kernel_rfl) (by kernel_rfl) (by kernel_rfl) (by kernel_rfl) (fun _ _ _ h => h) (Or.inl ⟨by rfl, ?_⟩) (by assumption) ?_
    rotate_left
    · (intro w_ hS_; (try dsimp only at hS_); go_simp; try with_reducible rfl)
    try simp only [Act.put, List.setIfInBounds_toArray, List.set_cons_zero, List.set_cons_succ]
    refine till_takeD (i := 14) (v := ?_) (some 47) rfl rfl (by kernel_rfl) (by kernel_rfl) (by kernel_rfl) (by kernel_rfl) (fun _ _ _ h => h) (Or.inl ⟨by rfl, ?_⟩) (by assumption) ?_
    rotate_left
    · (intro w_ hS_; (try dsimp only at hS_); go_simp; try with_reducible rfl)
    try simp only [Act.put, List.setIfInBounds_toArray, List.set_cons_zero, List.set_cons_succ]
    refine till_takeD (i := 15) (v := ?_) (some 48) rfl rfl (by kernel_rfl) (by kernel_rfl) (by kernel_rfl) (by kernel_rfl) (fun _ _ _ h => h) (Or.inl ⟨by rfl, ?_⟩) (by assumption) ?_
    rotate_left
    · (intro w_ hS_; (try dsimp only at hS_); go_simp; try with_reducible rfl)
    try simp only [Act.put, List.setIfInBounds_toArray, List.set_cons_zero, List.set_cons_succ]
    refine till_takeD (i := 16) (v := ?_) (some 49) rfl rfl (by kernel_rfl) (by kernel_rfl) (by kernel_rfl) (by kernel_rfl) (fun _ _ _ h => h) (Or.inl ⟨by rfl, ?_⟩) (by assumption) ?_
    rotate_left
    · (intro w_ hS_; (try dsimp only at hS_); go_simp; try with_reducible rfl)
    try simp only [Act.put, List.setIfInBounds_toArray, List.set_cons_zero, List.set_cons_succ]
    refine till_takeD (i := 17) (v := ?_) (some 50) rfl rfl (by kernel_rfl) (by kernel_rfl) (by kernel_rfl) (by kernel_rfl) (fun _ _ _ h => h) (Or.inl ⟨by rfl, ?_⟩) (by assumption) ?_
    rotate_left
    · (intro w_ hS_; (try dsimp only at hS_); go_simp; try with_reducible rfl)
    try simp only [Act.put, List.setIfInBounds_toArray, List.set_cons_zero, List.set_cons_succ]
    refine till_takeD (i := 18) (v := ?_) (some 51) rfl rfl (by kernel_rfl) (by kernel_rfl) (by kernel_rfl) (by kernel_rfl) (fun _ _ _ h => h) (Or.inl ⟨by rfl, ?_⟩) (by assumption) ?_
    rotate_left
    · (intro w_ hS_; (try dsimp only at hS_); go_simp; try with_reducible rfl)
    try simp only [Act.put, List.setIfInBounds_toArray, List.set_cons_zero, List.set_cons_succ]
    refine till_one (i := 19) (by kernel_rfl) rfl (fun K hK => ?_)
    have kHT := bc0 HT.out
    have fHT := bf0 HT.out
    have yHT := blk_lt HT.out
    go_simp
    clear kHT fHT yHT
    have l29_end := blk_lt HT.out
    have l30_end := blk_lt HM.out
    have l31_end := blk_lt HE1.out
    have l32_end := blk_lt HE2.out
    have l33_end := blk_lt HE3.out
    have l34_end := blk_lt HE4.out
    replace HT : Aside0 (((((((W7).setCell ⟨w.heap.size, 0, none⟩ (.int .i64 s0)).setCell ⟨w.heap.size, 1, none⟩ (.int .i64 s1)).setCell ⟨w.heap.size, 2, none⟩ (.int .i64 s2)).setCell ⟨w.heap.size, 3, none⟩ (.slice sA s3.length sa)).setCell ⟨w.heap.size, 4, none⟩ (.slice sB s4.length sb)).heap[w.heap.size]? = some (.cells #[(.int .i64 s0), (.int .i64 s1), (.int .i64 s2), (.slice sA s3.length sa), (.slice sB s4.length sb)] 25 (0, 0))) := Aside0.mk (blk_put (blk_put (blk_put (blk_put (blk_put HT.out 0 (.int .i64 s0) rfl) 1 (.int .i64 s1) rfl) 2 (.int .i64 s2) rfl) 3 (.slice sA s3.length sa) rfl) 4 (.slice sB s4.length sb) rfl)
    replace HM := Aside0.mk (blk_far (p := ⟨w.heap.size, 4, none⟩) (blk_far (p := ⟨w.heap.size, 3, none⟩) (blk_far (p := ⟨w.heap.size, 2, none⟩) (blk_far (p := ⟨w.heap.size, 1, none⟩) (blk_far (p := ⟨w.heap.size, 0, none⟩) HM.out (show t2 ≠ w.heap.size by omega) (.int .i64 s0)) (show t2 ≠ w.heap.size by omega) (.int .i64 s1)) (show t2 ≠ w.heap.size by omega) (.int .i64 s2)) (show t2 ≠ w.heap.size by omega) (.slice sA s3.length sa)) (show t2 ≠ w.heap.size by omega) (.slice sB s4.length sb))
    replace HE1 := Aside0.mk (blk_far (p := ⟨w.heap.size, 4, none⟩) (blk_far (p := ⟨w.heap.size, 3, none⟩) (blk_far (p := ⟨w.heap.size, 2, none⟩) (blk_far (p := ⟨w.heap.size, 1, none⟩) (blk_far (p := ⟨w.heap.size, 0, none⟩) HE1.out (show t2 + 1 ≠ w.heap.size by omega) (.int .i64 s0)) (show t2 + 1 ≠ w.heap.size by omega) (.int .i64 s1)) (show t2 + 1 ≠ w.heap.size by omega) (.int .i64 s2)) (show t2 + 1 ≠ w.heap.size by omega) (.slice sA s3.length sa)) (show t2 + 1 ≠ w.heap.size by omega) (.slice sB s4.length sb))
    replace HE2 := Aside0.mk (blk_far (p := ⟨w.heap.size, 4, none⟩) (blk_far (p := ⟨w.heap.size, 3, none⟩) (blk_far (p := ⟨w.heap.size, 2, none⟩) (blk_far (p := ⟨w.heap.size, 1, none⟩) (blk_far (p := ⟨w.heap.size, 0, none⟩) HE2.out (show t4 ≠ w.heap.size by omega) (.int .i64 s0)) (show t4 ≠ w.heap.size by omega) (.int .i64 s1)) (show t4 ≠ w.heap.size by omega) (.int .i64 s2)) (show t4 ≠ w.heap.size by omega) (.slice sA s3.length sa)) (show t4 ≠ w.heap.size by omega) (.slice sB s4.length sb))
    replace HE3 := Aside0.mk (blk_far (p := ⟨w.heap.size, 4, none⟩) (blk_far (p := ⟨w.heap.size, 3, none⟩) (blk_far (p := ⟨w.heap.size, 2, none⟩) (blk_far (p := ⟨w.heap.size, 1, none⟩) (blk_far (p := ⟨w.heap.size, 0, none⟩) HE3.out (show t5 ≠ w.heap.size by omega) (.int .i64 s0)) (show t5 ≠ w.heap.size by omega) (.int .i64 s1)) (show t5 ≠ w.heap.size by omega) (.int .i64 s2)) (show t5 ≠ w.heap.size by omega) (.slice sA s3.length sa)) (show t5 ≠ w.heap.size by omega) (.slice sB s4.length sb))
    replace HE4 := Aside0.mk (blk_far (p := ⟨w.heap.size, 4, none⟩) (blk_far (p := ⟨w.heap.size, 3, none⟩) (blk_far (p := ⟨w.heap.size, 2, none⟩) (blk_far (p := ⟨w.heap.size, 1, none⟩) (blk_far (p := ⟨w.heap.size, 0, none⟩) HE4.out (show t6 ≠ w.heap.size by omega) (.int .i64 s0)) (show t6 ≠ w.heap.size by omega) (.int .i64 s1)) (show t6 ≠ w.heap.size by omega) (.int .i64 s2)) (show t6 ≠ w.heap.size by omega) (.slice sA s3.length sa)) (show t6 ≠ w.heap.size by omega) (.slice sB s4.length sb))
    replace HsV := Aside0.mk (Kd.V_far (p := ⟨w.heap.size, 4, none⟩) (Kd.V_far (p := ⟨w.heap.size, 3, none⟩) (Kd.V_far (p := ⟨w.heap.size, 2, none⟩) (Kd.V_far (p := ⟨w.heap.size, 1, none⟩) (Kd.V_far (p := ⟨w.heap.size, 0, none⟩) HsV.out (fun k_ (hk_ : Wnr.heap.size ≤ k_) => by show k_ ≠ w.heap.size; omega) (.int .i64 s0)) (fun k_ (hk_ : Wnr.heap.size ≤ k_) => by show k_ ≠ w.heap.size; omega) (.int .i64 s1)) (fun k_ (hk_ : Wnr.heap.size ≤ k_) => by show k_ ≠ w.heap.size; omega) (.int .i64 s2)) (fun k_ (hk_ : Wnr.heap.size ≤ k_) => by show k_ ≠ w.heap.size; omega) (.slice sA s3.length sa)) (fun k_ (hk_ : Wnr.heap.size ≤ k_) => by show k_ ≠ w.heap.size; omega) (.slice sB s4.length sb))
    replace HsW := Aside0.mk (Kd.V_far (p := ⟨w.heap.size, 4, none⟩) (Kd.V_far (p := ⟨w.heap.size, 3, none⟩) (Kd.V_far (p := ⟨w.heap.size, 2, none⟩) (Kd.V_far (p := ⟨w.heap.size, 1, none⟩) (Kd.V_far (p := ⟨w.heap.size, 0, none⟩) HsW.out (fun k_ (hk_ : Wnr.heap.size ≤ k_) => by show k_ ≠ w.heap.size; omega) (.int .i64 s0)) (fun k_ (hk_ : Wnr.heap.size ≤ k_) => by show k_ ≠ w.heap.size; omega) (.int .i64 s1)) (fun k_ (hk_ : Wnr.heap.size ≤ k_) => by show k_ ≠ w.heap.size; omega) (.int .i64 s2)) (fun k_ (hk_ : Wnr.heap.size ≤ k_) => by show k_ ≠ w.heap.size; omega) (.slice sA s3.length sa)) (fun k_ (hk_ : Wnr.heap.size ≤ k_) => by show k_ ≠ w.heap.size; omega) (.slice sB s4.length sb))
    replace HB := Aside0.mk (below_set (j := 4) (v := (.slice sB s4.length sb)) (below_set (j := 3) (v := (.slice sA s3.length sa)) (below_set (j := 2) (v := (.int .i64 s2)) (below_set (j := 1) (v := (.int .i64 s1)) (below_set (j := 0) (v := (.int .i64 s0)) HB.out (show w.heap.size ≤ w.heap.size by omega)) (show w.heap.size ≤ w.heap.size by omega)) (show w.heap.size ≤ w.heap.size by omega)) (show w.heap.size ≤ w.heap.size by omega)) (show w.heap.size ≤ w.heap.size by omega))
    generalize (((((W7).setCell ⟨w.heap.size, 0, none⟩ (.int .i64 s0)).setCell ⟨w.heap.size, 1, none⟩ (.int .i64 s1)).setCell ⟨w.heap.size, 2, none⟩ (.int .i64 s2)).setCell ⟨w.heap.size, 3, none⟩ (.slice sA s3.length sa)).setCell ⟨w.heap.size, 4, none⟩ (.slice sB s4.length sb) = W8 at *
    refine hK.out _ _ trivial (fun _ _ => ⟨bc0 HM.out 0, bc0 HM.out 1, bc0 HM.out 2, bc0 HM.out 3, bc0 HM.out 4, bc0 HE1.out 0, bc0 HE2.out 0, bc0 HE3.out 0, bc0 HE4.out 0⟩) (fun hTV => ?_)
    clear hK K hTU
    have hTU := hTV (by kernel_rfl) (by decide)
    clear hTV
    try simp only [Act.put, List.setIfInBounds_toArray, List.set_cons_zero, List.set_cons_succ]
    refine till_one (i := 20) (by kernel_rfl) rfl (fun K hK => ?_)
    go_simp
    refine hK.out _ _ trivial (fun _ h => absurd rfl h) (fun _ => ?_)
    clear hK K hTU
    refine till_done (by kernel_rfl) ?_ _
    have kHT := bc0 HT.out
    have fHT := bf0 HT.out
    have yHT := blk_lt HT.out
    go_wp2
    exact bodyPost_ret (v := .tuple #[.agg #[.int .i64 s0, .int .i64 s1, .int .i64 s2, .slice sA s3.length sa, .slice sB s4.length sb], .bool true]) (by simp [results, Tryd.results22, go_sem, kHT, yHT]) rfl ⟨_, _, rfl, Kd.V_mono (Kd.V_lower (base' := w.heap.size) HsV.out (by omega)) (fun k_ (hk_ : Wnr.heap.size ≤ k_) => by omega), Kd.V_mono (Kd.V_lower (base' := w.heap.size) HsW.out (by omega)) (fun k_ (hk_ : Wnr.heap.size ≤ k_) => by omega), HB.out⟩



end Go.Proofs.YtlaglkcgmhgacaaDoor.P
