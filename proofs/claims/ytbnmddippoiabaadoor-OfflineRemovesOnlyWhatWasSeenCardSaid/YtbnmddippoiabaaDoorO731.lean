/- Functions of this seat as Lean functions, and that the Go code comes to their answers: written by a program of this session's. -/
import Derived.Test.YtbnmddippoiabaaDoorO725
import Derived.Test.YtbnmddippoiabaaDoorO710
import Derived.Test.YtbnmddippoiabaaDoorO718
import Derived.Test.YtbnmddippoiabaaDoorO720
import Derived.Test.YtbnmddippoiabaaDoorO728
import Derived.Test.YtbnmddippoiabaaDoorO729
namespace Go.Proofs.YtbnmddippoiabaaDoor.P
open Go.RowKit Go.Proofs.YtbnmddippoiabaaDoorW.PrintWords Go.Proofs.YtbnmddippoiabaaDoorW.PrintLast Go.Proofs.YtbnmddippoiabaaDoorW.PrintMore
attribute [local go_sem] max2_int min2_int max_two min_two max_three min_three max_four min_four   -- for this text's walks alone
set_option linter.unusedVariables false
set_option linter.unusedSimpArgs false

/-! ### posthouselaw8_OfflineRemovesOnlyWhatWasSeen: function 5 -/
attribute [local go_sem high] eqFault
set_option maxHeartbeats 4000000 in
set_option maxRecDepth 100000 in
theorem OffRemoves_a (k : Nat) (a0 a1 a2 : Int) (aA : Option Addr) (aa : Nat) (a3 : List (S55)) (aB : Option Addr) (ab : Nat) (a4 : List (S75)) (base : Int) (qA : Option Addr) (qa : Nat) (ql : List (S43)) (r0 r1 r2 : Int) (r3 : List (S55)) (r4 : List (S75)) (s5 s6 : Int) (sl : List (S68)) (w : World) (ha3 : Kd.C k55 w aA a3.length a3) (ea3 : a3.length ≤ aa) (ha4 : Kd.C k75 w aB a4.length a4) (ea4 : a4.length ≤ ab) (hql : Kd.C k43 w qA ql.length ql) (eql : ql.length ≤ qa) (hqw : ∀ q ∈ ql, (Lit.int .i64 q.f0).wf = true) (haw : mailbox_Validate.f k a0 a1 a2 a3 a4 = some (0, 0) → (Lit.int .i64 a1).wf = true) (hbx : ∀ w, Calls Tryd.prog 12 #[] w fun e w' => e = .returned (.bool true) ∧ Below w.heap.size w w') (p1 : offline_Merge.f k a0 a1 a2 a3 a4 base ql = some (r0, r1, r2, r3, r4, sl, s5, s6)) (q1 : (s5 != 0) = true) :
    Calls Tryd.prog 5 #[.agg #[.int .i64 a0, .int .i64 a1, .int .i64 a2, .slice aA a3.length aa, .slice aB a4.length ab], .int .i64 base, .slice qA ql.length qa] w fun e w' => e = .returned (.bool true) ∧ Below w.heap.size w w' := by
  have HA3 := Aside0.mk ha3
  have HA4 := Aside0.mk ha4
  have HQL := Aside0.mk hql
  have HQW := Aside0.mk hqw
  have HAW := Aside0.mk haw
  have HBX := Aside0.mk hbx
  have P1 := Aside0.mk p1
  clear ha3 ha4 hql hqw haw hbx p1
  have hu := Tryd.underlying25
  have hus := Tryd.underlying55
  have hfld := fieldFault_0
  have HB := Aside0.mk (below_alloc (Below.refl w.heap.size w) (.cells #[.int .i64 a0, .int .i64 a1, .int .i64 a2, .slice aA a3.length aa, .slice aB a4.length ab] 25))
  have HA := Aside0.mk (blk_at (w := w) (.cells #[.int .i64 a0, .int .i64 a1, .int .i64 a2, .slice aA a3.length aa, .slice aB a4.length ab] 25))
  go_enter Tryd.func5, Tryd.ntmps5
  go_wp2_with fail
  refine (HBX.out _).mono ?_
  rintro e w1 ⟨rfl, hb⟩
  replace HA := Aside0.mk (blk_call HA.out hb)
  replace HB := Aside0.mk (below_step HB.out hb)
  clear hb
  have kHA := bc0 HA.out
  have mHA := bc1 HA.out
  have nHA := bc2 HA.out
  have fHA := bf0 HA.out
  have yHA := blk_lt HA.out
  go_wp2_with fail
  clear kHA mHA nHA fHA yHA
  refine (offline_Merge.calls k a0 a1 a2 aA aa a3 aB ab a4 base qA qa ql r0 r1 r2 r3 r4 sl s5 s6 _ (Kd.C_below HA3.out HB.out) ea3 (Kd.C_below HA4.out HB.out) ea4 (Kd.C_below HQL.out HB.out) eql HAW.out HQW.out P1.out).mono ?_
  rintro e w2 ⟨v3_, v4_, vs_, rfl, hv3_, hv4_, hvs_, hb⟩
  obtain ⟨rA, ra, rfl⟩ := Kd.V_slice hv3_
  obtain ⟨rB, rb, rfl⟩ := Kd.V_slice hv4_
  obtain ⟨sA, sa, rfl⟩ := Kd.V_slice hvs_
  have HrV := Aside0.mk hv3_
  have HrW := Aside0.mk hv4_
  clear hv3_ hv4_ hvs_
  replace HA := Aside0.mk (blk_call HA.out hb)
  replace HB := Aside0.mk (below_step HB.out hb)
  clear hb
  go_wp2
  go_ret
  exact ⟨rfl, below_alloc (below_alloc HB.out _) _⟩
set_option maxHeartbeats 4000000 in
set_option maxRecDepth 100000 in
theorem OffRemoves_b (k : Nat) (a0 a1 a2 : Int) (aA : Option Addr) (aa : Nat) (a3 : List (S55)) (aB : Option Addr) (ab : Nat) (a4 : List (S75)) (base : Int) (qA : Option Addr) (qa : Nat) (ql : List (S43)) (r0 r1 r2 : Int) (r3 : List (S55)) (r4 : List (S75)) (s5 s6 : Int) (sl : List (S68)) (w : World) (ha3 : Kd.C k55 w aA a3.length a3) (ea3 : a3.length ≤ aa) (ha4 : Kd.C k75 w aB a4.length a4) (ea4 : a4.length ≤ ab) (hql : Kd.C k43 w qA ql.length ql) (eql : ql.length ≤ qa) (hqw : ∀ q ∈ ql, (Lit.int .i64 q.f0).wf = true) (haw : mailbox_Validate.f k a0 a1 a2 a3 a4 = some (0, 0) → (Lit.int .i64 a1).wf = true) (hbx : ∀ w, Calls Tryd.prog 12 #[] w fun e w' => e = .returned (.bool true) ∧ Below w.heap.size w w') (p1 : offline_Merge.f k a0 a1 a2 a3 a4 base ql = some (r0, r1, r2, r3, r4, sl, s5, s6)) (q1 : (s5 != 0) = false) (z : Int) (u1 : mailbox_Validate.f k r0 r1 r2 r3 r4 = some (0, z)) (hle : r3.length ≤ a3.length) (hpl : ∀ (i : Nat) (x : S55), a3[i]? = some x → base ≤ x.f1 → ∃ r : Int, posthouseref8_Place.f k r0 r1 r2 r3 r4 x.f0 = some r ∧ 0 ≤ r) :
    Calls Tryd.prog 5 #[.agg #[.int .i64 a0, .int .i64 a1, .int .i64 a2, .slice aA a3.length aa, .slice aB a4.length ab], .int .i64 base, .slice qA ql.length qa] w fun e w' => e = .returned (.bool true) ∧ Below w.heap.size w w' := by
  have HA3 := Aside0.mk ha3
  have HA4 := Aside0.mk ha4
  have HQL := Aside0.mk hql
  have HQW := Aside0.mk hqw
  have HAW := Aside0.mk haw
  have HBX := Aside0.mk hbx
  have P1 := Aside0.mk p1
  have U1 := Aside0.mk u1
  have HPL := Aside0.mk hpl
  clear ha3 ha4 hql hqw haw hbx p1 u1 hpl
  have hu := Tryd.underlying25
  have hus := Tryd.underlying55
  have hfld := fieldFault_0
  have HB := Aside0.mk (below_alloc (Below.refl w.heap.size w) (.cells #[.int .i64 a0, .int .i64 a1, .int .i64 a2, .slice aA a3.length aa, .slice aB a4.length ab] 25))
  have HA := Aside0.mk (blk_at (w := w) (.cells #[.int .i64 a0, .int .i64 a1, .int .i64 a2, .slice aA a3.length aa, .slice aB a4.length ab] 25))
  go_enter Tryd.func5, Tryd.ntmps5
  go_wp2_with fail
  refine (HBX.out _).mono ?_
  rintro e w1 ⟨rfl, hb⟩
  replace HA := Aside0.mk (blk_call HA.out hb)
  replace HB := Aside0.mk (below_step HB.out hb)
  clear hb
  have kHA := bc0 HA.out
  have mHA := bc1 HA.out
  have nHA := bc2 HA.out
  have fHA := bf0 HA.out
  have yHA := blk_lt HA.out
  go_wp2_with fail
  clear kHA mHA nHA fHA yHA
  refine (offline_Merge.calls k a0 a1 a2 aA aa a3 aB ab a4 base qA qa ql r0 r1 r2 r3 r4 sl s5 s6 _ (Kd.C_below HA3.out HB.out) ea3 (Kd.C_below HA4.out HB.out) ea4 (Kd.C_below HQL.out HB.out) eql HAW.out HQW.out P1.out).mono ?_
  rintro e w2 ⟨v3_, v4_, vs_, rfl, hv3_, hv4_, hvs_, hb⟩
  obtain ⟨rA, ra, rfl⟩ := Kd.V_slice hv3_
  obtain ⟨rB, rb, rfl⟩ := Kd.V_slice hv4_
  obtain ⟨sA, sa, rfl⟩ := Kd.V_slice hvs_
  have HrV := Aside0.mk hv3_
  have HrW := Aside0.mk hv4_
  clear hv3_ hv4_ hvs_
  replace HA := Aside0.mk (blk_call HA.out hb)
  replace HB := Aside0.mk (below_step HB.out hb)
  clear hb
  go_wp2_with fail
  have l1_t2 := blk_lt HA.out
  replace HA := Aside0.mk (blk_later HA.out (.cells #[.int .i64 r0, .int .i64 r1, .int .i64 r2, .slice rA r3.length ra, .slice rB r4.length rb] 25))
  replace HrV := Aside0.mk (Kd.V_alloc HrV.out (.cells #[.int .i64 r0, .int .i64 r1, .int .i64 r2, .slice rA r3.length ra, .slice rB r4.length rb] 25))
  replace HrW := Aside0.mk (Kd.V_alloc HrW.out (.cells #[.int .i64 r0, .int .i64 r1, .int .i64 r2, .slice rA r3.length ra, .slice rB r4.length rb] 25))
  replace HB := Aside0.mk (below_alloc HB.out (.cells #[.int .i64 r0, .int .i64 r1, .int .i64 r2, .slice rA r3.length ra, .slice rB r4.length rb] 25))
  have HM := Aside0.mk (blk_at (w := w2) (.cells #[.int .i64 r0, .int .i64 r1, .int .i64 r2, .slice rA r3.length ra, .slice rB r4.length rb] 25))
  have hs0_t2_ : (w2.alloc (.cells #[.int .i64 r0, .int .i64 r1, .int .i64 r2, .slice rA r3.length ra, .slice rB r4.length rb] 25)).heap.size = w2.heap.size + 1 := by simp
  generalize w2.alloc (.cells #[.int .i64 r0, .int .i64 r1, .int .i64 r2, .slice rA r3.length ra, .slice rB r4.length rb] 25) = X3 at *
  generalize w2.heap.size = t2_ at *
  have l2_t21 := blk_lt HA.out
  have l3_t21 := blk_lt HM.out
  replace HA := Aside0.mk (blk_later HA.out (.cells #[.int .i64 s5, .int .i64 s6] 29))
  replace HM := Aside0.mk (blk_later HM.out (.cells #[.int .i64 s5, .int .i64 s6] 29))
  replace HrV := Aside0.mk (Kd.V_alloc HrV.out (.cells #[.int .i64 s5, .int .i64 s6] 29))
  replace HrW := Aside0.mk (Kd.V_alloc HrW.out (.cells #[.int .i64 s5, .int .i64 s6] 29))
  replace HB := Aside0.mk (below_alloc HB.out (.cells #[.int .i64 s5, .int .i64 s6] 29))
  have HE := Aside0.mk (blk_at (w := X3) (.cells #[.int .i64 s5, .int .i64 s6] 29))
  rw [hs0_t2_] at HE l2_t21 l3_t21
  clear hs0_t2_
  generalize X3.alloc (.cells #[.int .i64 s5, .int .i64 s6] 29) = X4 at *
  clear HE
  have HC3 := Aside0.mk (Kd.C_below HA3.out HB.out)
  have hr63 := (Kd.F_now (Kd.V_F HrV.out)).2.1
  go_loopg [10] a3.length (fun gg v10 W => ∃ i : Nat, i ≤ a3.length ∧ a3.length - i ≤ gg ∧ v10 = .int .i64 i ∧ Aside0 (W.heap[w.heap.size]? = some (.cells #[.int .i64 a0, .int .i64 a1, .int .i64 a2, .slice aA a3.length aa, .slice aB a4.length ab] 25 (0, 0))) ∧ Aside0 (W.heap[t2_]? = some (.cells #[.int .i64 r0, .int .i64 r1, .int .i64 r2, .slice rA r3.length ra, .slice rB r4.length rb] 25 (0, 0))) ∧ Aside0 (Kd.C k55 W aA a3.length a3) ∧ Aside0 (Kd.C k55 W rA r3.length r3) ∧ Aside0 (Kd.C k75 W rB r4.length r4) ∧ Aside0 (Below w.heap.size w W))
  case atStart => exact ⟨0, Nat.zero_le _, Nat.le_refl _, rfl, HA, HM, HC3, ⟨(Kd.F_now (Kd.V_F HrV.out))⟩, ⟨(Kd.F_now (Kd.V_F HrW.out))⟩, HB⟩
  case round =>
  have HrV3 := (Kd.V_at HrV.out).2.1
  have HrW3 := (Kd.V_at HrW.out).2.1
  clear HA HM HC3 HB HrV HrW
  obtain ⟨i, hi, hg, rfl, HA, HM, HC3, HR3, HR4, HB⟩ := hrel
  have h63 := HC3.out.2.1
  by_cases hlt : i < a3.length
  · skip
    obtain ⟨x, hx⟩ : ∃ x, a3[i]? = some x := ⟨_, List.getElem?_eq_getElem hlt⟩
    have i0 : decide ((i : Int) < (a3.length : Int)) = true := decide_eq_true (by omega)
    have i1 : decide (0 ≤ (i : Int)) = true := decide_eq_true (by omega)
    obtain ⟨ad, _, _, _, _, hA, q0, q1, -⟩ := at_T55 HC3.out (i : Int) (by omega) (by omega)
    have hrd : rd_T55 a3 (i : Int) = x := by unfold rd_T55; rw [Int.toNat_natCast, List.getD_eq_getElem?_getD, hx]; rfl
    rw [hrd, Int.toNat_natCast] at q0 q1
    clear hrd
    subst hA
    have Q0 := Aside0.mk q0
    have Q1 := Aside0.mk q1
    have HPX := Aside0.mk (HPL.out i x hx)
    clear q0 q1 hx
    have HLT := Aside0.mk hlt
    have kHA := bc0 HA.out
    have mHA := bc1 HA.out
    have nHA := bc2 HA.out
    have fHA := bf0 HA.out
    have yHA := blk_lt HA.out
    go_wp2_with fail
    clear kHA mHA nHA fHA yHA
    by_cases c1 : base ≤ x.f1
    · skip
      have d1 : decide (base ≤ x.f1) = true := decide_eq_true c1
      obtain ⟨r, hr, hr0⟩ := HPX.out c1
      have d2 : decide (r < 0) = false := decide_eq_false (by omega)
      have HRP := Aside0.mk hr
      clear hr hr0
      clear c1 HPX
      refine region_till 18 (fun _ => True) (fun w' : World => w'.cell? ⟨w.heap.size, 3, none⟩ = some (.slice (some ad) a3.length aa) ∧ w'.cell? ⟨(ad.add (i * 6)).block, (ad.add (i * 6)).off + 1, none⟩ = some (.int .i64 x.f1) ∧ w'.cell? (ad.add (i * 6)) = some (.int .i64 x.f0) ∧ w'.cell? ⟨t2_, 0, none⟩ = some (.int .i64 r0) ∧ w'.cell? ⟨t2_, 1, none⟩ = some (.int .i64 r1) ∧ w'.cell? ⟨t2_, 2, none⟩ = some (.int .i64 r2) ∧ w'.cell? ⟨t2_, 3, none⟩ = some (.slice rA r3.length ra) ∧ w'.cell? ⟨t2_, 4, none⟩ = some (.slice rB r4.length rb)) (by kernel_rfl) ⟨trivial, ⟨bc0 (blk_drew HA.out) 3, Q1.out, Q0.out, bc0 (blk_drew HM.out) 0, bc0 (blk_drew HM.out) 1, bc0 (blk_drew HM.out) 2, bc0 (blk_drew HM.out) 3, bc0 (blk_drew HM.out) 4⟩⟩ (fun hTU => ?_)
      replace HA := Aside0.mk (blk_drew HA.out)
      replace HM := Aside0.mk (blk_drew HM.out)
      replace HB := Aside0.mk (below_drew1 HB.out)
      replace HC3 := Aside0.mk (Kd.C_below HC3.out (below_drew1 (Below.refl _ _)))
      replace HR3 := Aside0.mk (Kd.C_below HR3.out (below_drew1 (Below.refl _ _)))
      replace HR4 := Aside0.mk (Kd.C_below HR4.out (below_drew1 (Below.refl _ _)))
      replace Q0 := Aside0.mk (show wr.drew.cell? _ = _ from Q0.out)
      replace Q1 := Aside0.mk (show wr.drew.cell? _ = _ from Q1.out)
      generalize wr.drew = V0 at *
      refine till_takeD (i := 0) (v := ?_) (some 31) rfl rfl (by kernel_rfl) (by kernel_rfl) (by kernel_rfl) (by kernel_rfl) (fun _ _ _ h => h) (Or.inl ⟨by rfl, ?_⟩) (by assumption) ?_
      rotate_left
      · (intro w_ hS_; (try dsimp only at hS_); go_simp; try with_reducible rfl)
      try simp only [Act.put, List.setIfInBounds_toArray, List.set_cons_zero, List.set_cons_succ]
      refine till_takeD (i := 1) (v := ?_) (some 32) rfl rfl (by kernel_rfl) (by kernel_rfl) (by kernel_rfl) (by kernel_rfl) (fun _ _ _ h => h) (Or.inl ⟨by rfl, ?_⟩) (by assumption) ?_
      rotate_left
      · (intro w_ hS_; (try dsimp only at hS_); go_simp; try with_reducible rfl)
      try simp only [Act.put, List.setIfInBounds_toArray, List.set_cons_zero, List.set_cons_succ]
      refine till_takeD (i := 2) (v := ?_) (some 33) rfl rfl (by kernel_rfl) (by kernel_rfl) (by kernel_rfl) (by kernel_rfl) (fun _ _ _ h => h) (Or.inl ⟨by rfl, ?_⟩) (by assumption) ?_
      rotate_left
      · (intro w_ hS_; (try dsimp only at hS_); go_simp; try with_reducible rfl)
      try simp only [Act.put, List.setIfInBounds_toArray, List.set_cons_zero, List.set_cons_succ]
      refine till_takeD (i := 3) (v := ?_) (some 34) rfl rfl (by kernel_rfl) (by kernel_rfl) (by kernel_rfl) (by kernel_rfl) (fun _ _ _ h => h) (Or.inl ⟨by rfl, ?_⟩) (by assumption) ?_
      rotate_left
      · (intro w_ hS_; (try dsimp only at hS_); go_simp; try with_reducible rfl)
      try simp only [Act.put, List.setIfInBounds_toArray, List.set_cons_zero, List.set_cons_succ]
      refine till_takeD (i := 4) (v := ?_) (some 35) rfl rfl (by kernel_rfl) (by kernel_rfl) (by kernel_rfl) (by kernel_rfl) (fun _ _ _ h => h) (Or.inl ⟨by rfl, ?_⟩) (by assumption) ?_
      rotate_left
      · (intro w_ hS_; (try dsimp only at hS_); go_simp; try with_reducible rfl)
      try simp only [Act.put, List.setIfInBounds_toArray, List.set_cons_zero, List.set_cons_succ]
      refine till_takeD (i := 5) (v := ?_) (some 36) rfl rfl (by kernel_rfl) (by kernel_rfl) (by kernel_rfl) (by kernel_rfl) (fun _ _ _ h => h) (Or.inl ⟨by rfl, ?_⟩) (by assumption) ?_
      rotate_left
      · (intro w_ hS_; (try dsimp only at hS_); go_simp; try with_reducible rfl)
      try simp only [Act.put, List.setIfInBounds_toArray, List.set_cons_zero, List.set_cons_succ]
      refine till_takeD (i := 6) (v := ?_) (some 37) rfl rfl (by kernel_rfl) (by kernel_rfl) (by kernel_rfl) (by kernel_rfl) (fun _ _ _ h => h) (Or.inl ⟨by rfl, ?_⟩) (by assumption) ?_
      rotate_left
      · (intro w_ hS_; (try dsimp only at hS_); go_simp; try with_reducible rfl)
      try simp only [Act.put, List.setIfInBounds_toArray, List.set_cons_zero, List.set_cons_succ]
      refine till_takeD (i := 7) (v := ?_) (some 38) rfl rfl (by kernel_rfl) (by kernel_rfl) (by kernel_rfl) (by kernel_rfl) (fun _ _ _ h => h) (Or.inl ⟨by rfl, ?_⟩) (by assumption) ?_
      rotate_left
      · (intro w_ hS_; (try dsimp only at hS_); go_simp; try with_reducible rfl)
      try simp only [Act.put, List.setIfInBounds_toArray, List.set_cons_zero, List.set_cons_succ]
      refine till_takeD (i := 8) (v := ?_) (some 39) rfl rfl (by kernel_rfl) (by kernel_rfl) (by kernel_rfl) (by kernel_rfl) (fun _ _ _ h => h) (Or.inl ⟨by rfl, ?_⟩) (by assumption) ?_
      rotate_left
      · (intro w_ hS_; (try dsimp only at hS_); go_simp; try with_reducible rfl)
      try simp only [Act.put, List.setIfInBounds_toArray, List.set_cons_zero, List.set_cons_succ]
      refine till_takeD (i := 9) (v := ?_) (some 40) rfl rfl (by kernel_rfl) (by kernel_rfl) (by kernel_rfl) (by kernel_rfl) (fun _ _ _ h => h) (Or.inl ⟨by rfl, ?_⟩) (by assumption) ?_
      rotate_left
      · (intro w_ hS_; (try dsimp only at hS_); go_simp; try with_reducible rfl)
      try simp only [Act.put, List.setIfInBounds_toArray, List.set_cons_zero, List.set_cons_succ]
      refine till_takeD (i := 10) (v := ?_) (some 41) rfl rfl (by kernel_rfl) (by kernel_rfl) (by kernel_rfl) (by kernel_rfl) (fun _ _ _ h => h) (Or.inl ⟨by rfl, ?_⟩) (by assumption) ?_
      rotate_left
      · (intro w_ hS_; (try dsimp only at hS_); go_simp; try with_reducible rfl)
      try simp only [Act.put, List.setIfInBounds_toArray, List.set_cons_zero, List.set_cons_succ]
      refine till_takeD (i := 11) (v := ?_) (some 42) rfl rfl (by kernel_rfl) (by kernel_rfl) (by kernel_rfl) (by kernel_rfl) (fun _ _ _ h => h) (Or.inl ⟨by rfl, ?_⟩) (by assumption) ?_
      rotate_left
      · (intro w_ hS_; (try dsimp only at hS_); go_simp; try with_reducible rfl)
      try simp only [Act.put, List.setIfInBounds_toArray, List.set_cons_zero, List.set_cons_succ]
      refine till_takeD (i := 12) (v := ?_) (some 43) rfl rfl (by kernel_rfl) (by kernel_rfl) (by kernel_rfl) (by kernel_rfl) (fun _ _ _ h => h) (Or.inl ⟨by rfl, ?_⟩) (by assumption) ?_
      rotate_left
      · (intro w_ hS_; (try dsimp only at hS_); go_simp; try with_reducible rfl)
      try simp only [Act.put, List.setIfInBounds_toArray, List.set_cons_zero, List.set_cons_succ]
      refine till_takeD (i := 13) (v := ?_) (some 44) rfl rfl (by kernel_rfl) (by kernel_rfl) (by kernel_rfl) (by kernel_rfl) (fun _ _ _ h => h) (Or.inl ⟨by rfl, ?_⟩) (by assumption) ?_
      rotate_left
      · (intro w_ hS_; (try dsimp only at hS_); go_simp; try with_reducible rfl)
      try simp only [Act.put, List.setIfInBounds_toArray, List.set_cons_zero, List.set_cons_succ]
      refine till_takeD (i := 14) (v := ?_) (some 45) rfl rfl (by kernel_rfl) (by kernel_rfl) (by kernel_rfl) (by kernel_rfl) (fun _ _ _ h => h) (Or.inl ⟨by rfl, ?_⟩) (by assumption) ?_
      rotate_left
      · (intro w_ hS_; (try dsimp only at hS_); go_simp; try with_reducible rfl)
      try simp only [Act.put, List.setIfInBounds_toArray, List.set_cons_zero, List.set_cons_succ]
      refine till_takeD (i := 15) (v := ?_) (some 46) rfl rfl (by kernel_rfl) (by kernel_rfl) (by kernel_rfl) (by kernel_rfl) (fun _ _ _ h => h) (Or.inl ⟨by rfl, ?_⟩) (by assumption) ?_
      rotate_left
      · (intro w_ hS_; (try dsimp only at hS_); go_simp; try with_reducible rfl)
      try simp only [Act.put, List.setIfInBounds_toArray, List.set_cons_zero, List.set_cons_succ]
      refine till_one (i := 16) (by kernel_rfl) rfl (fun K hK => ?_)
      go_simp
      go_at_call 18
      refine (posthouseref8_Place.calls k r0 r1 r2 rA ra r3 rB rb r4 x.f0 r _ HR3.out HrV3 HR4.out HrW3 HRP.out).mono ?_
      rintro e w5 ⟨rfl, hb⟩
      replace HC3 := Aside0.mk (Kd.C_below HC3.out hb)
      replace HR3 := Aside0.mk (Kd.C_below HR3.out hb)
      replace HR4 := Aside0.mk (Kd.C_below HR4.out hb)
      replace Q0 := Aside0.mk (cell_later Q0.out hb)
      replace Q1 := Aside0.mk (cell_later Q1.out hb)
      replace HA := Aside0.mk (blk_call HA.out hb)
      replace HM := Aside0.mk (blk_call HM.out hb)
      replace HB := Aside0.mk (below_step HB.out hb)
      clear hb
      refine hK.out _ _ trivial (fun _ _ => ⟨bc0 HA.out 3, Q1.out, Q0.out, bc0 HM.out 0, bc0 HM.out 1, bc0 HM.out 2, bc0 HM.out 3, bc0 HM.out 4⟩) (fun hTV => ?_)
      clear hK K hTU
      have hTU := hTV (by kernel_rfl) (by decide)
      clear hTV
      try simp only [Act.put, List.setIfInBounds_toArray, List.set_cons_zero, List.set_cons_succ]
      refine till_freeD (i := 17) (v := ?_) (some 48) rfl rfl (by decide) (by kernel_rfl) (by kernel_rfl) (by kernel_rfl) (fun _ _ _ h => h) (Or.inl ⟨by rfl, ?_⟩) ⟨hTU.1, fun _ => hTU.2⟩ ?_
      rotate_left
      · (intro w_ _; go_simp; try with_reducible rfl)
      try simp only [Act.put, List.setIfInBounds_toArray, List.set_cons_zero, List.set_cons_succ]
      refine till_one (i := 18) (by kernel_rfl) rfl (fun K hK => ?_)
      go_simp
      refine hK.out _ _ trivial (fun _ h => absurd rfl h) (fun _ => ?_)
      clear hK K hTU
      refine till_done (by kernel_rfl) ?_ _
      go_wp2
      go_roundg (a3.length - (i + 1))
      case measure => have h9 := HLT.out; omega
      case rel => exact ⟨i + 1, by have h9 := HLT.out; omega, by have h9 := HLT.out; omega, by go_num, HA, HM, HC3, HR3, HR4, HB⟩
    · skip
      have d1 : decide (base ≤ x.f1) = false := decide_eq_false c1
      clear c1 HPX
      refine region_till 18 (fun _ => True) (fun w' : World => w'.cell? ⟨w.heap.size, 3, none⟩ = some (.slice (some ad) a3.length aa) ∧ w'.cell? ⟨(ad.add (i * 6)).block, (ad.add (i * 6)).off + 1, none⟩ = some (.int .i64 x.f1) ∧ w'.cell? (ad.add (i * 6)) = some (.int .i64 x.f0) ∧ w'.cell? ⟨t2_, 0, none⟩ = some (.int .i64 r0) ∧ w'.cell? ⟨t2_, 1, none⟩ = some (.int .i64 r1) ∧ w'.cell? ⟨t2_, 2, none⟩ = some (.int .i64 r2) ∧ w'.cell? ⟨t2_, 3, none⟩ = some (.slice rA r3.length ra) ∧ w'.cell? ⟨t2_, 4, none⟩ = some (.slice rB r4.length rb)) (by kernel_rfl) ⟨trivial, ⟨bc0 (blk_drew HA.out) 3, Q1.out, Q0.out, bc0 (blk_drew HM.out) 0, bc0 (blk_drew HM.out) 1, bc0 (blk_drew HM.out) 2, bc0 (blk_drew HM.out) 3, bc0 (blk_drew HM.out) 4⟩⟩ (fun hTU => ?_)
      replace HA := Aside0.mk (blk_drew HA.out)
      replace HM := Aside0.mk (blk_drew HM.out)
      replace HB := Aside0.mk (below_drew1 HB.out)
      replace HC3 := Aside0.mk (Kd.C_below HC3.out (below_drew1 (Below.refl _ _)))
      replace HR3 := Aside0.mk (Kd.C_below HR3.out (below_drew1 (Below.refl _ _)))
      replace HR4 := Aside0.mk (Kd.C_below HR4.out (below_drew1 (Below.refl _ _)))
      replace Q0 := Aside0.mk (show wr.drew.cell? _ = _ from Q0.out)
      replace Q1 := Aside0.mk (show wr.drew.cell? _ = _ from Q1.out)
      generalize wr.drew = V0 at *
      refine till_takeD (i := 0) (v := ?_) (some 31) rfl rfl (by kernel_rfl) (by kernel_rfl) (by kernel_rfl) (by kernel_rfl) (fun _ _ _ h => h) (Or.inl ⟨by rfl, ?_⟩) (by assumption) ?_
      rotate_left
      · (intro w_ hS_; (try dsimp only at hS_); go_simp; try with_reducible rfl)
      try simp only [Act.put, List.setIfInBounds_toArray, List.set_cons_zero, List.set_cons_succ]
      refine till_takeD (i := 1) (v := ?_) (some 32) rfl rfl (by kernel_rfl) (by kernel_rfl) (by kernel_rfl) (by kernel_rfl) (fun _ _ _ h => h) (Or.inl ⟨by rfl, ?_⟩) (by assumption) ?_
      rotate_left
      · (intro w_ hS_; (try dsimp only at hS_); go_simp; try with_reducible rfl)
      try simp only [Act.put, List.setIfInBounds_toArray, List.set_cons_zero, List.set_cons_succ]
      refine till_takeD (i := 2) (v := ?_) (some 33) rfl rfl (by kernel_rfl) (by kernel_rfl) (by kernel_rfl) (by kernel_rfl) (fun _ _ _ h => h) (Or.inl ⟨by rfl, ?_⟩) (by assumption) ?_
      rotate_left
      · (intro w_ hS_; (try dsimp only at hS_); go_simp; try with_reducible rfl)
      try simp only [Act.put, List.setIfInBounds_toArray, List.set_cons_zero, List.set_cons_succ]
      refine till_takeD (i := 3) (v := ?_) (some 34) rfl rfl (by kernel_rfl) (by kernel_rfl) (by kernel_rfl) (by kernel_rfl) (fun _ _ _ h => h) (Or.inl ⟨by rfl, ?_⟩) (by assumption) ?_
      rotate_left
      · (intro w_ hS_; (try dsimp only at hS_); go_simp; try with_reducible rfl)
      try simp only [Act.put, List.setIfInBounds_toArray, List.set_cons_zero, List.set_cons_succ]
      refine till_takeD (i := 4) (v := ?_) (some 35) rfl rfl (by kernel_rfl) (by kernel_rfl) (by kernel_rfl) (by kernel_rfl) (fun _ _ _ h => h) (Or.inl ⟨by rfl, ?_⟩) (by assumption) ?_
      rotate_left
      · (intro w_ hS_; (try dsimp only at hS_); go_simp; try with_reducible rfl)
      try simp only [Act.put, List.setIfInBounds_toArray, List.set_cons_zero, List.set_cons_succ]
      refine till_takeD (i := 5) (v := ?_) (some 36) rfl rfl (by kernel_rfl) (by kernel_rfl) (by kernel_rfl) (by kernel_rfl) (fun _ _ _ h => h) (Or.inl ⟨by rfl, ?_⟩) (by assumption) ?_
      rotate_left
      · (intro w_ hS_; (try dsimp only at hS_); go_simp; try with_reducible rfl)
      try simp only [Act.put, List.setIfInBounds_toArray, List.set_cons_zero, List.set_cons_succ]
      refine till_takeD (i := 6) (v := ?_) (some 37) rfl rfl (by kernel_rfl) (by kernel_rfl) (by kernel_rfl) (by kernel_rfl) (fun _ _ _ h => h) (Or.inl ⟨by rfl, ?_⟩) (by assumption) ?_
      rotate_left
      · (intro w_ hS_; (try dsimp only at hS_); go_simp; try with_reducible rfl)
      try simp only [Act.put, List.setIfInBounds_toArray, List.set_cons_zero, List.set_cons_succ]
      refine till_takeD (i := 7) (v := ?_) (some 38) rfl rfl (by kernel_rfl) (by kernel_rfl) (by kernel_rfl) (by kernel_rfl) (fun _ _ _ h => h) (Or.inl ⟨by rfl, ?_⟩) (by assumption) ?_
      rotate_left
      · (intro w_ hS_; (try dsimp only at hS_); go_simp; try with_reducible rfl)
      try simp only [Act.put, List.setIfInBounds_toArray, List.set_cons_zero, List.set_cons_succ]
      refine till_takeD (i := 8) (v := ?_) (some 39) rfl rfl (by kernel_rfl) (by kernel_rfl) (by kernel_rfl) (by kernel_rfl) (fun _ _ _ h => h) (Or.inl ⟨by rfl, ?_⟩) (by assumption) ?_
      rotate_left
      · (intro w_ hS_; (try dsimp only at hS_); go_simp; try with_reducible rfl)
      try simp only [Act.put, List.setIfInBounds_toArray, List.set_cons_zero, List.set_cons_succ]
      refine till_takeD (i := 9) (v := undef) (some 40) rfl rfl (by kernel_rfl) (by kernel_rfl) (by kernel_rfl) (by kernel_rfl) (fun _ _ _ h => h) (Or.inr ⟨by rfl, rfl⟩) (by assumption) ?_
      try simp only [Act.put, List.setIfInBounds_toArray, List.set_cons_zero, List.set_cons_succ]
      refine till_takeD (i := 10) (v := undef) (some 41) rfl rfl (by kernel_rfl) (by kernel_rfl) (by kernel_rfl) (by kernel_rfl) (fun _ _ _ h => h) (Or.inr ⟨by rfl, rfl⟩) (by assumption) ?_
      try simp only [Act.put, List.setIfInBounds_toArray, List.set_cons_zero, List.set_cons_succ]
      refine till_takeD (i := 11) (v := undef) (some 42) rfl rfl (by kernel_rfl) (by kernel_rfl) (by kernel_rfl) (by kernel_rfl) (fun _ _ _ h => h) (Or.inr ⟨by rfl, rfl⟩) (by assumption) ?_
      try simp only [Act.put, List.setIfInBounds_toArray, List.set_cons_zero, List.set_cons_succ]
      refine till_takeD (i := 12) (v := undef) (some 43) rfl rfl (by kernel_rfl) (by kernel_rfl) (by kernel_rfl) (by kernel_rfl) (fun _ _ _ h => h) (Or.inr ⟨by rfl, rfl⟩) (by assumption) ?_
      try simp only [Act.put, List.setIfInBounds_toArray, List.set_cons_zero, List.set_cons_succ]
      refine till_takeD (i := 13) (v := undef) (some 44) rfl rfl (by kernel_rfl) (by kernel_rfl) (by kernel_rfl) (by kernel_rfl) (fun _ _ _ h => h) (Or.inr ⟨by rfl, rfl⟩) (by assumption) ?_
      try simp only [Act.put, List.setIfInBounds_toArray, List.set_cons_zero, List.set_cons_succ]
      refine till_takeD (i := 14) (v := undef) (some 45) rfl rfl (by kernel_rfl) (by kernel_rfl) (by kernel_rfl) (by kernel_rfl) (fun _ _ _ h => h) (Or.inr ⟨by rfl, rfl⟩) (by assumption) ?_
      try simp only [Act.put, List.setIfInBounds_toArray, List.set_cons_zero, List.set_cons_succ]
      refine till_takeD (i := 15) (v := undef) (some 46) rfl rfl (by kernel_rfl) (by kernel_rfl) (by kernel_rfl) (by kernel_rfl) (fun _ _ _ h => h) (Or.inr ⟨by rfl, rfl⟩) (by assumption) ?_
      try simp only [Act.put, List.setIfInBounds_toArray, List.set_cons_zero, List.set_cons_succ]
      refine till_one (i := 16) (by kernel_rfl) rfl (fun K hK => ?_)
      go_simp
      refine hK.out _ _ trivial (fun _ _ => ⟨bc0 HA.out 3, Q1.out, Q0.out, bc0 HM.out 0, bc0 HM.out 1, bc0 HM.out 2, bc0 HM.out 3, bc0 HM.out 4⟩) (fun hTV => ?_)
      clear hK K hTU
      have hTU := hTV (by kernel_rfl) (by decide)
      clear hTV
      try simp only [Act.put, List.setIfInBounds_toArray, List.set_cons_zero, List.set_cons_succ]
      refine till_one (i := 17) (by kernel_rfl) rfl (fun K hK => ?_)
      go_simp
      refine hK.out _ _ trivial (fun _ _ => ⟨bc0 HA.out 3, Q1.out, Q0.out, bc0 HM.out 0, bc0 HM.out 1, bc0 HM.out 2, bc0 HM.out 3, bc0 HM.out 4⟩) (fun hTV => ?_)
      clear hK K hTU
      have hTU := hTV (by kernel_rfl) (by decide)
      clear hTV
      try simp only [Act.put, List.setIfInBounds_toArray, List.set_cons_zero, List.set_cons_succ]
      refine till_one (i := 18) (by kernel_rfl) rfl (fun K hK => ?_)
      go_simp
      refine hK.out _ _ trivial (fun _ h => absurd rfl h) (fun _ => ?_)
      clear hK K hTU
      refine till_done (by kernel_rfl) ?_ _
      go_wp2
      go_roundg (a3.length - (i + 1))
      case measure => have h9 := HLT.out; omega
      case rel => exact ⟨i + 1, by have h9 := HLT.out; omega, by have h9 := HLT.out; omega, by go_num, HA, HM, HC3, HR3, HR4, HB⟩
  · skip
    obtain rfl : i = a3.length := by omega
    have i0 : decide ((a3.length : Int) < (a3.length : Int)) = false := decide_eq_false (by omega)
    have d3 : decide ((r3.length : Int) ≤ (a3.length : Int)) = true := decide_eq_true (by omega)
    have kHA := bc0 HA.out
    have mHA := bc1 HA.out
    have nHA := bc2 HA.out
    have fHA := bf0 HA.out
    have yHA := blk_lt HA.out
    have kHM := bc0 HM.out
    have mHM := bc1 HM.out
    have nHM := bc2 HM.out
    have fHM := bf0 HM.out
    have yHM := blk_lt HM.out
    go_wp2_with fail
    clear kHA mHA nHA fHA yHA kHM mHM nHM fHM yHM
    refine (mailbox_Validate.calls k r0 r1 r2 rA ra r3 rB rb r4 0 z _ HR3.out HrV3 HR4.out HrW3 U1.out).mono ?_
    rintro e w6 ⟨rfl, hb⟩
    replace HA := Aside0.mk (blk_call HA.out hb)
    replace HM := Aside0.mk (blk_call HM.out hb)
    replace HB := Aside0.mk (below_step HB.out hb)
    clear hb
    go_wp2
    go_ret
    exact ⟨rfl, HB.out⟩


end Go.Proofs.YtbnmddippoiabaaDoor.P
