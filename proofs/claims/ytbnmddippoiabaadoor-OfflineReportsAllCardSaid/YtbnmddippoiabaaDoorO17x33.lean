/- Functions of this seat as Lean functions, and that the Go code comes to their answers: written by a program of this session's. -/
import Derived.Test.YtbnmddippoiabaaDoorO17x25
import Derived.Test.YtbnmddippoiabaaDoorO17x10
import Derived.Test.YtbnmddippoiabaaDoorO17x20
import Derived.Test.YtbnmddippoiabaaDoorO17x30
import Derived.Test.YtbnmddippoiabaaDoorO17x32
namespace Go.Proofs.YtbnmddippoiabaaDoor.P
open Go.RowKit Go.Proofs.YtbnmddippoiabaaDoorW.PrintWords Go.Proofs.YtbnmddippoiabaaDoorW.PrintLast Go.Proofs.YtbnmddippoiabaaDoorW.PrintMore
attribute [local go_sem] max2_int min2_int max_two min_two max_three min_three max_four min_four   -- for this text's walks alone
set_option linter.unusedVariables false
set_option linter.unusedSimpArgs false

/-! ### views_Same: function 22 -/
def views_Same.f (k : Nat) (v0 : Int) (l : List (S83)) (a0 a1 a2 : Int) (l3 : List (S55)) (l4 : List (S75)) : Option (Bool × Int × Int) :=
  (views_Validate.f v0 l).bind fun u => if u = (0, 0) then (mailbox_Validate.f k a0 a1 a2 l3 l4).bind fun t => if t = (0, 0) then (views_Make.f k a0 a1 a2 l3 l4).bind fun m => (api_Seen.f k l m.2).bind fun b => some (b, 0, 0) else some (false, t.1, -5) else some (false, u.1, u.2)
theorem views_Same.mono : ∀ a0 a1 a2 a3 a4 a5 a6 k, LeO (views_Same.f k a0 a1 a2 a3 a4 a5 a6) (views_Same.f (k + 1) a0 a1 a2 a3 a4 a5 a6) := by
  intro a0 a1 a2 a3 a4 a5 a6 k
  unfold views_Same.f
  exact LeO.bind (LeO.refl _) (fun _ => LeO.ite (LeO.bind (mailbox_Validate.mono _ _ _ _ _ _) (fun _ => LeO.ite (LeO.bind (views_Make.mono _ _ _ _ _ _) (fun _ => LeO.bind (api_Seen.mono _ _ _) (fun _ => LeO.refl _))) (LeO.refl _))) (LeO.refl _))
theorem fieldView_1 (x : Int) (y : Value) (w : World) : Sem.run Tryd.prog (Instr.field 47 (.agg #[.int .i64 x, y]) 1) w = .ok y w := by kernel_rfl
theorem same_fault {x y : Int} (h : ¬ (x, y) = (0, 0)) : (x == 0 && (y == 0)) = false := by
  by_cases h1 : x = 0
  · by_cases h2 : y = 0
    · exact absurd (by rw [h1, h2]) h
    · rw [beq_eq_false_iff_ne.2 h2, Bool.and_false]
  · rw [beq_eq_false_iff_ne.2 h1, Bool.false_and]
attribute [local go_sem high] eqFault
set_option maxHeartbeats 4000000 in
set_option maxRecDepth 100000 in
theorem views_Same.calls (k : Nat) (v0 : Int) (vA : Option Addr) (va : Nat) (v1 : List (S83)) (a0 a1 a2 : Int) (aA : Option Addr) (aa : Nat) (a3 : List (S55)) (aB : Option Addr) (ab : Nat) (a4 : List (S75)) (r1 : Bool) (r2 r3 : Int) (w : World) (hv1 : Kd.C k83 w vA v1.length v1) (ev1 : v1.length ≤ va) (ha3 : Kd.C k55 w aA a3.length a3) (ea3 : a3.length ≤ aa) (ha4 : Kd.C k75 w aB a4.length a4) (ea4 : a4.length ≤ ab) (h : views_Same.f k v0 v1 a0 a1 a2 a3 a4 = some (r1, r2, r3)) :
    Calls Tryd.prog 22 #[.agg #[.int .i64 v0, .slice vA v1.length va], .agg #[.int .i64 a0, .int .i64 a1, .int .i64 a2, .slice aA a3.length aa, .slice aB a4.length ab]] w fun e w' => e = .returned (.tuple #[.bool r1, .agg #[.int .i64 r2, .int .i64 r3]]) ∧ Below w.heap.size w w' := by
  unfold views_Same.f at h
  obtain ⟨⟨u0, u1⟩, hu, h⟩ := Option.bind_eq_some_iff.1 h
  have HA3 := Aside0.mk ha3
  have HA4 := Aside0.mk ha4
  have HV1 := Aside0.mk hv1
  have HU := Aside0.mk hu
  clear ha3 ha4 hv1 hu
  have hfv := fieldView_1
  have hus := Tryd.underlying25
  have huv := Tryd.underlying47
  have huf := Tryd.underlying29
  have HB := Aside0.mk (below_alloc (below_alloc (below_alloc (Below.refl w.heap.size w) (.cells #[.int .i64 v0, .slice vA v1.length va] 47)) (.cells #[.int .i64 a0, .int .i64 a1, .int .i64 a2, .slice aA a3.length aa, .slice aB a4.length ab] 25)) (.cells #[.int .i64 0, .int .i64 0] 29))
  have HV := Aside0.mk (blk_later (blk_later (blk_at (w := w) (.cells #[.int .i64 v0, .slice vA v1.length va] 47)) (.cells #[.int .i64 a0, .int .i64 a1, .int .i64 a2, .slice aA a3.length aa, .slice aB a4.length ab] 25)) (.cells #[.int .i64 0, .int .i64 0] 29))
  have HA := Aside0.mk (blk_later (blk_at1 (w := w) (.cells #[.int .i64 v0, .slice vA v1.length va] 47) (.cells #[.int .i64 a0, .int .i64 a1, .int .i64 a2, .slice aA a3.length aa, .slice aB a4.length ab] 25)) (.cells #[.int .i64 0, .int .i64 0] 29))
  have HS := Aside0.mk (blk_at2 (w := w) (.cells #[.int .i64 v0, .slice vA v1.length va] 47) (.cells #[.int .i64 a0, .int .i64 a1, .int .i64 a2, .slice aA a3.length aa, .slice aB a4.length ab] 25) (.cells #[.int .i64 0, .int .i64 0] 29))
  split at h
  case isTrue e1 =>
    injection e1 with e1 e2
    subst e1 e2
    obtain ⟨⟨t0, t1⟩, ht, h⟩ := Option.bind_eq_some_iff.1 h
    have HT := Aside0.mk ht
    clear ht
    split at h
    case isTrue e3 =>
      injection e3 with e3 e4
      subst e3 e4
      obtain ⟨⟨m1, m2⟩, hm, h⟩ := Option.bind_eq_some_iff.1 h
      obtain ⟨b, he, h⟩ := Option.bind_eq_some_iff.1 h
      simp only [Option.some.injEq, Prod.mk.injEq] at h
      obtain ⟨h1, h2, h3⟩ := h
      obtain rfl := h1.symm
      subst h2 h3
      clear h1
      have HM := Aside0.mk hm
      have HE := Aside0.mk he
      clear hm he
      go_enter Tryd.func22, Tryd.ntmps22
      go_wp2_with fail
      refine (views_Validate.calls v0 vA va v1 0 0 _ (Kd.C_below HV1.out HB.out) ev1 HU.out).mono ?_
      rintro e w1 ⟨rfl, hb⟩
      replace HV := Aside0.mk (blk_call HV.out hb)
      replace HA := Aside0.mk (blk_call HA.out hb)
      replace HS := Aside0.mk (blk_call HS.out hb)
      replace HB := Aside0.mk (below_step HB.out hb)
      clear hb
      have kHA := bc0 HA.out
      have mHA := bc1 HA.out
      have nHA := bc2 HA.out
      have fHA := bf0 HA.out
      have yHA := blk_lt HA.out
      go_wp2_with fail
      clear kHA mHA nHA fHA yHA
      have l1_t1 := blk_lt HV.out
      have l2_t1 := blk_lt HA.out
      have l3_t1 := blk_lt HS.out
      replace HV := Aside0.mk (blk_later HV.out (.cells #[.int .i64 0, .int .i64 0] 29))
      replace HA := Aside0.mk (blk_later HA.out (.cells #[.int .i64 0, .int .i64 0] 29))
      replace HS := Aside0.mk (blk_later HS.out (.cells #[.int .i64 0, .int .i64 0] 29))
      replace HB := Aside0.mk (below_alloc HB.out (.cells #[.int .i64 0, .int .i64 0] 29))
      have HF := Aside0.mk (blk_at (w := w1) (.cells #[.int .i64 0, .int .i64 0] 29))
      have hs1 : (w1.alloc (.cells #[.int .i64 0, .int .i64 0] 29)).heap.size = w1.heap.size + 1 := by simp
      generalize w1.alloc (.cells #[.int .i64 0, .int .i64 0] 29) = X2 at *
      generalize w1.heap.size = t1_ at *
      refine (mailbox_Validate.calls k a0 a1 a2 aA aa a3 aB ab a4 0 0 _ (Kd.C_below HA3.out HB.out) ea3 (Kd.C_below HA4.out HB.out) ea4 HT.out).mono ?_
      rintro e w3 ⟨rfl, hb⟩
      replace HV := Aside0.mk (blk_call HV.out hb)
      replace HA := Aside0.mk (blk_call HA.out hb)
      replace HS := Aside0.mk (blk_call HS.out hb)
      replace HF := Aside0.mk (blk_call HF.out hb)
      replace HB := Aside0.mk (below_step HB.out hb)
      clear hb
      have ne1 := eq_false (show ¬ (w.heap.size = t1_) by omega)
      have ne2 := eq_false (show ¬ (t1_ = w.heap.size) by omega)
      have kHF := bc0 HF.out
      have mHF := bc1 HF.out
      have nHF := bc2 HF.out
      have fHF := bf0 HF.out
      have yHF := blk_lt HF.out
      go_wp2_with fail
      clear kHF mHF nHF fHF yHF
      replace HV := Aside0.mk (blk_far (p := ⟨t1_, 1, none⟩) (blk_far (p := ⟨t1_, 0, none⟩) HV.out (show w.heap.size ≠ t1_ by omega) (.int .i64 0)) (show w.heap.size ≠ t1_ by omega) (.int .i64 0))
      replace HA := Aside0.mk (blk_far (p := ⟨t1_, 1, none⟩) (blk_far (p := ⟨t1_, 0, none⟩) HA.out (show w.heap.size + 1 ≠ t1_ by omega) (.int .i64 0)) (show w.heap.size + 1 ≠ t1_ by omega) (.int .i64 0))
      replace HS := Aside0.mk (blk_far (p := ⟨t1_, 1, none⟩) (blk_far (p := ⟨t1_, 0, none⟩) HS.out (show w.heap.size + 1 + 1 ≠ t1_ by omega) (.int .i64 0)) (show w.heap.size + 1 + 1 ≠ t1_ by omega) (.int .i64 0))
      replace HF : Aside0 ((((w3).setCell ⟨t1_, 0, none⟩ (.int .i64 0)).setCell ⟨t1_, 1, none⟩ (.int .i64 0)).heap[t1_]? = some (.cells #[(.int .i64 0), (.int .i64 0)] 29 (0, 0))) := Aside0.mk (blk_put (blk_put HF.out 0 (.int .i64 0) rfl) 1 (.int .i64 0) rfl)
      replace HB := Aside0.mk (below_set (j := 1) (v := (.int .i64 0)) (below_set (j := 0) (v := (.int .i64 0)) HB.out (show w.heap.size ≤ t1_ by omega)) (show w.heap.size ≤ t1_ by omega))
      generalize ((w3).setCell ⟨t1_, 0, none⟩ (.int .i64 0)).setCell ⟨t1_, 1, none⟩ (.int .i64 0) = X4 at *
      refine region_till 13 (fun _ => True) (fun w' : World => w'.cell? ⟨t1_, 0, none⟩ = some (.int .i64 0) ∧ w'.cell? ⟨t1_, 1, none⟩ = some (.int .i64 0) ∧ w'.cell? ⟨w.heap.size, 0, none⟩ = some (.int .i64 v0) ∧ w'.cell? ⟨w.heap.size, 1, none⟩ = some (.slice vA v1.length va) ∧ w'.cell? ⟨w.heap.size + 1, 0, none⟩ = some (.int .i64 a0) ∧ w'.cell? ⟨w.heap.size + 1, 1, none⟩ = some (.int .i64 a1) ∧ w'.cell? ⟨w.heap.size + 1, 2, none⟩ = some (.int .i64 a2) ∧ w'.cell? ⟨w.heap.size + 1, 3, none⟩ = some (.slice aA a3.length aa) ∧ w'.cell? ⟨w.heap.size + 1, 4, none⟩ = some (.slice aB a4.length ab)) (by kernel_rfl) ⟨trivial, ⟨bc0 (blk_drew HF.out) 0, bc0 (blk_drew HF.out) 1, bc0 (blk_drew HV.out) 0, bc0 (blk_drew HV.out) 1, bc0 (blk_drew HA.out) 0, bc0 (blk_drew HA.out) 1, bc0 (blk_drew HA.out) 2, bc0 (blk_drew HA.out) 3, bc0 (blk_drew HA.out) 4⟩⟩ (fun hTU => ?_)
      replace HV := Aside0.mk (blk_drew HV.out)
      replace HA := Aside0.mk (blk_drew HA.out)
      replace HS := Aside0.mk (blk_drew HS.out)
      replace HF := Aside0.mk (blk_drew HF.out)
      replace HB := Aside0.mk (below_drew1 HB.out)
      generalize X4.drew = X6 at *
      refine till_take (i := 0) (v := ?_) rfl (by kernel_rfl) (by kernel_rfl) (by kernel_rfl) (by kernel_rfl) (fun _ _ _ h => h) (Or.inl ⟨by rfl, ?_⟩) (by assumption) ?_
      rotate_left
      · (intro w_ hS_; (try dsimp only at hS_); go_simp; try with_reducible rfl)
      try simp only [Act.put, List.setIfInBounds_toArray, List.set_cons_zero, List.set_cons_succ]
      refine till_take (i := 1) (v := ?_) rfl (by kernel_rfl) (by kernel_rfl) (by kernel_rfl) (by kernel_rfl) (fun _ _ _ h => h) (Or.inl ⟨by rfl, ?_⟩) (by assumption) ?_
      rotate_left
      · (intro w_ hS_; (try dsimp only at hS_); go_simp; try with_reducible rfl)
      try simp only [Act.put, List.setIfInBounds_toArray, List.set_cons_zero, List.set_cons_succ]
      refine till_take (i := 2) (v := ?_) rfl (by kernel_rfl) (by kernel_rfl) (by kernel_rfl) (by kernel_rfl) (fun _ _ _ h => h) (Or.inl ⟨by rfl, ?_⟩) (by assumption) ?_
      rotate_left
      · (intro w_ hS_; (try dsimp only at hS_); go_simp; try with_reducible rfl)
      try simp only [Act.put, List.setIfInBounds_toArray, List.set_cons_zero, List.set_cons_succ]
      refine till_take (i := 3) (v := ?_) rfl (by kernel_rfl) (by kernel_rfl) (by kernel_rfl) (by kernel_rfl) (fun _ _ _ h => h) (Or.inl ⟨by rfl, ?_⟩) (by assumption) ?_
      rotate_left
      · (intro w_ hS_; (try dsimp only at hS_); go_simp; try with_reducible rfl)
      try simp only [Act.put, List.setIfInBounds_toArray, List.set_cons_zero, List.set_cons_succ]
      refine till_take (i := 4) (v := ?_) rfl (by kernel_rfl) (by kernel_rfl) (by kernel_rfl) (by kernel_rfl) (fun _ _ _ h => h) (Or.inl ⟨by rfl, ?_⟩) (by assumption) ?_
      rotate_left
      · (intro w_ hS_; (try dsimp only at hS_); go_simp; try with_reducible rfl)
      try simp only [Act.put, List.setIfInBounds_toArray, List.set_cons_zero, List.set_cons_succ]
      refine till_take (i := 5) (v := ?_) rfl (by kernel_rfl) (by kernel_rfl) (by kernel_rfl) (by kernel_rfl) (fun _ _ _ h => h) (Or.inl ⟨by rfl, ?_⟩) (by assumption) ?_
      rotate_left
      · (intro w_ hS_; (try dsimp only at hS_); go_simp; try with_reducible rfl)
      try simp only [Act.put, List.setIfInBounds_toArray, List.set_cons_zero, List.set_cons_succ]
      refine till_take (i := 6) (v := ?_) rfl (by kernel_rfl) (by kernel_rfl) (by kernel_rfl) (by kernel_rfl) (fun _ _ _ h => h) (Or.inl ⟨by rfl, ?_⟩) (by assumption) ?_
      rotate_left
      · (intro w_ hS_; (try dsimp only at hS_); go_simp; try with_reducible rfl)
      try simp only [Act.put, List.setIfInBounds_toArray, List.set_cons_zero, List.set_cons_succ]
      refine till_take (i := 11) (v := ?_) rfl (by kernel_rfl) (by kernel_rfl) (by kernel_rfl) (by kernel_rfl) (fun _ _ _ h => h) (Or.inl ⟨by rfl, ?_⟩) (by assumption) ?_
      rotate_left
      · (intro w_ hS_; (try dsimp only at hS_); go_simp; try with_reducible rfl)
      try simp only [Act.put, List.setIfInBounds_toArray, List.set_cons_zero, List.set_cons_succ]
      refine till_one (i := 7) (by kernel_rfl) rfl (fun K hK => ?_)
      go_simp
      go_at_call 38
      refine (views_Make.calls k a0 a1 a2 aA aa a3 aB ab a4 m1 m2 _ (Kd.C_below HA3.out HB.out) ea3 (Kd.C_below HA4.out HB.out) ea4 HM.out).mono ?_
      rintro e w7 ⟨v1_, rfl, hr, hb⟩
      obtain ⟨mA, ma, rfl⟩ := Kd.R_slice hr
      have HmV := Aside0.mk (Kd.R_V (base' := 0) hr)
      clear hr
      replace HV := Aside0.mk (blk_call HV.out hb)
      replace HA := Aside0.mk (blk_call HA.out hb)
      replace HS := Aside0.mk (blk_call HS.out hb)
      replace HF := Aside0.mk (blk_call HF.out hb)
      replace HB := Aside0.mk (below_step HB.out hb)
      clear hb
      refine hK.out _ _ trivial (fun _ _ => ⟨bc0 HF.out 0, bc0 HF.out 1, bc0 HV.out 0, bc0 HV.out 1, bc0 HA.out 0, bc0 HA.out 1, bc0 HA.out 2, bc0 HA.out 3, bc0 HA.out 4⟩) (fun hTV => ?_)
      clear hK K hTU
      have hTU := hTV (by kernel_rfl) (by decide)
      clear hTV
      try simp only [Act.put, List.setIfInBounds_toArray, List.set_cons_zero, List.set_cons_succ]
      refine till_free (i := 8) (v := ?_) rfl (by decide) (by kernel_rfl) (by kernel_rfl) (by kernel_rfl) (fun _ _ _ h => h) (Or.inl ⟨by rfl, ?_⟩) ⟨hTU.1, fun _ => hTU.2⟩ ?_
      rotate_left
      · (intro w_ _; go_simp; try with_reducible rfl)
      try simp only [Act.put, List.setIfInBounds_toArray, List.set_cons_zero, List.set_cons_succ]
      refine till_one (i := 9) (by kernel_rfl) rfl (fun K hK => ?_)
      go_simp
      go_at_call 42
      refine (api_Seen.calls k vA va v1 mA ma m2 r1 _ (Kd.C_below HV1.out HB.out) ev1 (Kd.F_now (Kd.V_F HmV.out)) (Kd.V_at HmV.out).2.1 HE.out).mono ?_
      rintro e w8 ⟨rfl, hd⟩
      have hb := hd.below
      clear hd
      replace HV := Aside0.mk (blk_call HV.out hb)
      replace HA := Aside0.mk (blk_call HA.out hb)
      replace HS := Aside0.mk (blk_call HS.out hb)
      replace HF := Aside0.mk (blk_call HF.out hb)
      replace HmV := Aside0.mk (Kd.V_below HmV.out hb)
      replace HB := Aside0.mk (below_step HB.out hb)
      clear hb
      clear HmV
      refine hK.out _ _ trivial (fun _ _ => ⟨bc0 HF.out 0, bc0 HF.out 1, bc0 HV.out 0, bc0 HV.out 1, bc0 HA.out 0, bc0 HA.out 1, bc0 HA.out 2, bc0 HA.out 3, bc0 HA.out 4⟩) (fun hTV => ?_)
      clear hK K hTU
      have hTU := hTV (by kernel_rfl) (by decide)
      clear hTV
      try simp only [Act.put, List.setIfInBounds_toArray, List.set_cons_zero, List.set_cons_succ]
      refine till_free (i := 10) (v := ?_) rfl (by decide) (by kernel_rfl) (by kernel_rfl) (by kernel_rfl) (fun _ _ _ h => h) (Or.inl ⟨by rfl, ?_⟩) ⟨hTU.1, fun _ => hTU.2⟩ ?_
      rotate_left
      · (intro w_ _; go_simp; try with_reducible rfl)
      try simp only [Act.put, List.setIfInBounds_toArray, List.set_cons_zero, List.set_cons_succ]
      refine till_free (i := 12) (v := ?_) rfl (by decide) (by kernel_rfl) (by kernel_rfl) (by kernel_rfl) (fun _ _ _ h => h) (Or.inl ⟨by rfl, ?_⟩) ⟨hTU.1, fun _ => hTU.2⟩ ?_
      rotate_left
      · (intro w_ _; go_simp; try with_reducible rfl)
      try simp only [Act.put, List.setIfInBounds_toArray, List.set_cons_zero, List.set_cons_succ]
      refine till_one (i := 13) (by kernel_rfl) rfl (fun K hK => ?_)
      have kHS := bc0 HS.out
      have fHS := bf0 HS.out
      have yHS := blk_lt HS.out
      go_simp
      clear kHS fHS yHS
      replace HV := Aside0.mk (blk_far (p := ⟨w.heap.size + 1 + 1, 1, none⟩) (blk_far (p := ⟨w.heap.size + 1 + 1, 0, none⟩) HV.out (show w.heap.size ≠ w.heap.size + 1 + 1 by omega) (.int .i64 0)) (show w.heap.size ≠ w.heap.size + 1 + 1 by omega) (.int .i64 0))
      replace HA := Aside0.mk (blk_far (p := ⟨w.heap.size + 1 + 1, 1, none⟩) (blk_far (p := ⟨w.heap.size + 1 + 1, 0, none⟩) HA.out (show w.heap.size + 1 ≠ w.heap.size + 1 + 1 by omega) (.int .i64 0)) (show w.heap.size + 1 ≠ w.heap.size + 1 + 1 by omega) (.int .i64 0))
      replace HS : Aside0 ((((w8).setCell ⟨w.heap.size + 1 + 1, 0, none⟩ (.int .i64 0)).setCell ⟨w.heap.size + 1 + 1, 1, none⟩ (.int .i64 0)).heap[w.heap.size + 1 + 1]? = some (.cells #[(.int .i64 0), (.int .i64 0)] 29 (0, 0))) := Aside0.mk (blk_put (blk_put HS.out 0 (.int .i64 0) rfl) 1 (.int .i64 0) rfl)
      replace HF := Aside0.mk (blk_far (p := ⟨w.heap.size + 1 + 1, 1, none⟩) (blk_far (p := ⟨w.heap.size + 1 + 1, 0, none⟩) HF.out (show t1_ ≠ w.heap.size + 1 + 1 by omega) (.int .i64 0)) (show t1_ ≠ w.heap.size + 1 + 1 by omega) (.int .i64 0))
      replace HB := Aside0.mk (below_set (j := 1) (v := (.int .i64 0)) (below_set (j := 0) (v := (.int .i64 0)) HB.out (show w.heap.size ≤ w.heap.size + 1 + 1 by omega)) (show w.heap.size ≤ w.heap.size + 1 + 1 by omega))
      generalize ((w8).setCell ⟨w.heap.size + 1 + 1, 0, none⟩ (.int .i64 0)).setCell ⟨w.heap.size + 1 + 1, 1, none⟩ (.int .i64 0) = X9 at *
      refine hK.out _ _ trivial (fun _ h => absurd rfl h) (fun _ => ?_)
      clear hK K hTU
      refine till_done (by kernel_rfl) ?_ _
      go_wp2
      have kHS := bc0 HS.out
      exact bodyPost_ret (v := .tuple #[.bool r1, .agg #[.int .i64 0, .int .i64 0]]) (by simp [results, Tryd.results22, go_sem, kHS]) rfl ⟨rfl, HB.out⟩
    case isFalse e3 =>
      have d1 := same_fault e3
      simp only [Option.some.injEq, Prod.mk.injEq] at h
      obtain ⟨h1, h2, h3⟩ := h
      subst h1 h2 h3
      clear e3
      go_enter Tryd.func22, Tryd.ntmps22
      go_wp2_with fail
      refine (views_Validate.calls v0 vA va v1 0 0 _ (Kd.C_below HV1.out HB.out) ev1 HU.out).mono ?_
      rintro e w1 ⟨rfl, hb⟩
      replace HV := Aside0.mk (blk_call HV.out hb)
      replace HA := Aside0.mk (blk_call HA.out hb)
      replace HS := Aside0.mk (blk_call HS.out hb)
      replace HB := Aside0.mk (below_step HB.out hb)
      clear hb
      have kHA := bc0 HA.out
      have mHA := bc1 HA.out
      have nHA := bc2 HA.out
      have fHA := bf0 HA.out
      have yHA := blk_lt HA.out
      go_wp2_with fail
      clear kHA mHA nHA fHA yHA
      have l1_t1 := blk_lt HV.out
      have l2_t1 := blk_lt HA.out
      have l3_t1 := blk_lt HS.out
      replace HV := Aside0.mk (blk_later HV.out (.cells #[.int .i64 0, .int .i64 0] 29))
      replace HA := Aside0.mk (blk_later HA.out (.cells #[.int .i64 0, .int .i64 0] 29))
      replace HS := Aside0.mk (blk_later HS.out (.cells #[.int .i64 0, .int .i64 0] 29))
      replace HB := Aside0.mk (below_alloc HB.out (.cells #[.int .i64 0, .int .i64 0] 29))
      have HF := Aside0.mk (blk_at (w := w1) (.cells #[.int .i64 0, .int .i64 0] 29))
      have hs1 : (w1.alloc (.cells #[.int .i64 0, .int .i64 0] 29)).heap.size = w1.heap.size + 1 := by simp
      generalize w1.alloc (.cells #[.int .i64 0, .int .i64 0] 29) = X2 at *
      generalize w1.heap.size = t1_ at *
      refine (mailbox_Validate.calls k a0 a1 a2 aA aa a3 aB ab a4 t0 t1 _ (Kd.C_below HA3.out HB.out) ea3 (Kd.C_below HA4.out HB.out) ea4 HT.out).mono ?_
      rintro e w3 ⟨rfl, hb⟩
      replace HV := Aside0.mk (blk_call HV.out hb)
      replace HA := Aside0.mk (blk_call HA.out hb)
      replace HS := Aside0.mk (blk_call HS.out hb)
      replace HF := Aside0.mk (blk_call HF.out hb)
      replace HB := Aside0.mk (below_step HB.out hb)
      clear hb
      have ne1 := eq_false (show ¬ (w.heap.size = t1_) by omega)
      have ne2 := eq_false (show ¬ (t1_ = w.heap.size) by omega)
      have kHF := bc0 HF.out
      have mHF := bc1 HF.out
      have nHF := bc2 HF.out
      have fHF := bf0 HF.out
      have yHF := blk_lt HF.out
      go_wp2_with fail
      clear kHF mHF nHF fHF yHF
      replace HV := Aside0.mk (blk_far (p := ⟨t1_, 1, none⟩) (blk_far (p := ⟨t1_, 1, none⟩) (blk_far (p := ⟨t1_, 0, none⟩) HV.out (show w.heap.size ≠ t1_ by omega) (.int .i64 t0)) (show w.heap.size ≠ t1_ by omega) (.int .i64 t1)) (show w.heap.size ≠ t1_ by omega) (.int .i64 (-5)))
      replace HA := Aside0.mk (blk_far (p := ⟨t1_, 1, none⟩) (blk_far (p := ⟨t1_, 1, none⟩) (blk_far (p := ⟨t1_, 0, none⟩) HA.out (show w.heap.size + 1 ≠ t1_ by omega) (.int .i64 t0)) (show w.heap.size + 1 ≠ t1_ by omega) (.int .i64 t1)) (show w.heap.size + 1 ≠ t1_ by omega) (.int .i64 (-5)))
      replace HS := Aside0.mk (blk_far (p := ⟨t1_, 1, none⟩) (blk_far (p := ⟨t1_, 1, none⟩) (blk_far (p := ⟨t1_, 0, none⟩) HS.out (show w.heap.size + 1 + 1 ≠ t1_ by omega) (.int .i64 t0)) (show w.heap.size + 1 + 1 ≠ t1_ by omega) (.int .i64 t1)) (show w.heap.size + 1 + 1 ≠ t1_ by omega) (.int .i64 (-5)))
      replace HF := Aside0.mk (blk_put (blk_put (blk_put HF.out 0 (.int .i64 t0) rfl) 1 (.int .i64 t1) rfl) 1 (.int .i64 (-5)) rfl)
      replace HB := Aside0.mk (below_set (j := 1) (v := (.int .i64 (-5))) (below_set (j := 1) (v := (.int .i64 t1)) (below_set (j := 0) (v := (.int .i64 t0)) HB.out (show w.heap.size ≤ t1_ by omega)) (show w.heap.size ≤ t1_ by omega)) (show w.heap.size ≤ t1_ by omega))
      generalize (((w3).setCell ⟨t1_, 0, none⟩ (.int .i64 t0)).setCell ⟨t1_, 1, none⟩ (.int .i64 t1)).setCell ⟨t1_, 1, none⟩ (.int .i64 (-5)) = X4 at *
      replace HF : Aside0 (X4.heap[t1_]? = some (.cells #[.int .i64 t0, .int .i64 (-5)] 29 (0, 0))) := HF
      refine region_till 13 (fun _ => True) (fun w' : World => w'.cell? ⟨t1_, 0, none⟩ = some (.int .i64 t0) ∧ w'.cell? ⟨t1_, 1, none⟩ = some (.int .i64 (-5))) (by kernel_rfl) ⟨trivial, ⟨bc0 (blk_drew HF.out) 0, bc0 (blk_drew HF.out) 1⟩⟩ (fun hTU => ?_)
      replace HV := Aside0.mk (blk_drew HV.out)
      replace HA := Aside0.mk (blk_drew HA.out)
      replace HS := Aside0.mk (blk_drew HS.out)
      replace HF := Aside0.mk (blk_drew HF.out)
      replace HB := Aside0.mk (below_drew1 HB.out)
      generalize X4.drew = X6 at *
      refine till_take (i := 0) (v := ?_) rfl (by kernel_rfl) (by kernel_rfl) (by kernel_rfl) (by kernel_rfl) (fun _ _ _ h => h) (Or.inl ⟨by rfl, ?_⟩) (by assumption) ?_
      rotate_left
      · (intro w_ hS_; (try dsimp only at hS_); go_simp; try with_reducible rfl)
      try simp only [Act.put, List.setIfInBounds_toArray, List.set_cons_zero, List.set_cons_succ]
      refine till_take (i := 1) (v := ?_) rfl (by kernel_rfl) (by kernel_rfl) (by kernel_rfl) (by kernel_rfl) (fun _ _ _ h => h) (Or.inl ⟨by rfl, ?_⟩) (by assumption) ?_
      rotate_left
      · (intro w_ hS_; (try dsimp only at hS_); go_simp; try with_reducible rfl)
      try simp only [Act.put, List.setIfInBounds_toArray, List.set_cons_zero, List.set_cons_succ]
      refine till_take (i := 2) (v := ?_) rfl (by kernel_rfl) (by kernel_rfl) (by kernel_rfl) (by kernel_rfl) (fun _ _ _ h => h) (Or.inl ⟨by rfl, ?_⟩) (by assumption) ?_
      rotate_left
      · (intro w_ hS_; (try dsimp only at hS_); go_simp; try with_reducible rfl)
      try simp only [Act.put, List.setIfInBounds_toArray, List.set_cons_zero, List.set_cons_succ]
      refine till_take (i := 3) (v := ?_) rfl (by kernel_rfl) (by kernel_rfl) (by kernel_rfl) (by kernel_rfl) (fun _ _ _ h => h) (Or.inl ⟨by rfl, ?_⟩) (by assumption) ?_
      rotate_left
      · (intro w_ hS_; (try dsimp only at hS_); go_simp; try with_reducible rfl)
      try simp only [Act.put, List.setIfInBounds_toArray, List.set_cons_zero, List.set_cons_succ]
      refine till_take (i := 4) (v := undef) rfl (by kernel_rfl) (by kernel_rfl) (by kernel_rfl) (by kernel_rfl) (fun _ _ _ h => h) (Or.inr ⟨by rfl, rfl⟩) (by assumption) ?_
      try simp only [Act.put, List.setIfInBounds_toArray, List.set_cons_zero, List.set_cons_succ]
      refine till_take (i := 5) (v := undef) rfl (by kernel_rfl) (by kernel_rfl) (by kernel_rfl) (by kernel_rfl) (fun _ _ _ h => h) (Or.inr ⟨by rfl, rfl⟩) (by assumption) ?_
      try simp only [Act.put, List.setIfInBounds_toArray, List.set_cons_zero, List.set_cons_succ]
      refine till_take (i := 6) (v := undef) rfl (by kernel_rfl) (by kernel_rfl) (by kernel_rfl) (by kernel_rfl) (fun _ _ _ h => h) (Or.inr ⟨by rfl, rfl⟩) (by assumption) ?_
      try simp only [Act.put, List.setIfInBounds_toArray, List.set_cons_zero, List.set_cons_succ]
      refine till_take (i := 11) (v := ?_) rfl (by kernel_rfl) (by kernel_rfl) (by kernel_rfl) (by kernel_rfl) (fun _ _ _ h => h) (Or.inl ⟨by rfl, ?_⟩) (by assumption) ?_
      rotate_left
      · (intro w_ hS_; (try dsimp only at hS_); go_simp; try with_reducible rfl)
      try simp only [Act.put, List.setIfInBounds_toArray, List.set_cons_zero, List.set_cons_succ]
      refine till_one (i := 7) (by kernel_rfl) rfl (fun K hK => ?_)
      go_simp
      refine hK.out _ _ trivial (fun _ _ => ⟨bc0 HF.out 0, bc0 HF.out 1⟩) (fun hTV => ?_)
      clear hK K hTU
      have hTU := hTV (by kernel_rfl) (by decide)
      clear hTV
      try simp only [Act.put, List.setIfInBounds_toArray, List.set_cons_zero, List.set_cons_succ]
      refine till_one (i := 8) (by kernel_rfl) rfl (fun K hK => ?_)
      go_simp
      refine hK.out _ _ trivial (fun _ _ => ⟨bc0 HF.out 0, bc0 HF.out 1⟩) (fun hTV => ?_)
      clear hK K hTU
      have hTU := hTV (by kernel_rfl) (by decide)
      clear hTV
      try simp only [Act.put, List.setIfInBounds_toArray, List.set_cons_zero, List.set_cons_succ]
      refine till_one (i := 9) (by kernel_rfl) rfl (fun K hK => ?_)
      go_simp
      refine hK.out _ _ trivial (fun _ _ => ⟨bc0 HF.out 0, bc0 HF.out 1⟩) (fun hTV => ?_)
      clear hK K hTU
      have hTU := hTV (by kernel_rfl) (by decide)
      clear hTV
      try simp only [Act.put, List.setIfInBounds_toArray, List.set_cons_zero, List.set_cons_succ]
      refine till_free (i := 10) (v := ?_) rfl (by decide) (by kernel_rfl) (by kernel_rfl) (by kernel_rfl) (fun _ _ _ h => h) (Or.inl ⟨by rfl, ?_⟩) ⟨hTU.1, fun _ => hTU.2⟩ ?_
      rotate_left
      · (intro w_ _; go_simp; try with_reducible rfl)
      try simp only [Act.put, List.setIfInBounds_toArray, List.set_cons_zero, List.set_cons_succ]
      refine till_free (i := 12) (v := ?_) rfl (by decide) (by kernel_rfl) (by kernel_rfl) (by kernel_rfl) (fun _ _ _ h => h) (Or.inl ⟨by rfl, ?_⟩) ⟨hTU.1, fun _ => hTU.2⟩ ?_
      rotate_left
      · (intro w_ _; go_simp; try with_reducible rfl)
      try simp only [Act.put, List.setIfInBounds_toArray, List.set_cons_zero, List.set_cons_succ]
      refine till_one (i := 13) (by kernel_rfl) rfl (fun K hK => ?_)
      have kHS := bc0 HS.out
      have fHS := bf0 HS.out
      have yHS := blk_lt HS.out
      go_simp
      clear kHS fHS yHS
      replace HV := Aside0.mk (blk_far (p := ⟨w.heap.size + 1 + 1, 1, none⟩) (blk_far (p := ⟨w.heap.size + 1 + 1, 0, none⟩) HV.out (show w.heap.size ≠ w.heap.size + 1 + 1 by omega) (.int .i64 t0)) (show w.heap.size ≠ w.heap.size + 1 + 1 by omega) (.int .i64 (-5)))
      replace HA := Aside0.mk (blk_far (p := ⟨w.heap.size + 1 + 1, 1, none⟩) (blk_far (p := ⟨w.heap.size + 1 + 1, 0, none⟩) HA.out (show w.heap.size + 1 ≠ w.heap.size + 1 + 1 by omega) (.int .i64 t0)) (show w.heap.size + 1 ≠ w.heap.size + 1 + 1 by omega) (.int .i64 (-5)))
      replace HS : Aside0 ((((X6).setCell ⟨w.heap.size + 1 + 1, 0, none⟩ (.int .i64 t0)).setCell ⟨w.heap.size + 1 + 1, 1, none⟩ (.int .i64 (-5))).heap[w.heap.size + 1 + 1]? = some (.cells #[(.int .i64 t0), (.int .i64 (-5))] 29 (0, 0))) := Aside0.mk (blk_put (blk_put HS.out 0 (.int .i64 t0) rfl) 1 (.int .i64 (-5)) rfl)
      replace HF := Aside0.mk (blk_far (p := ⟨w.heap.size + 1 + 1, 1, none⟩) (blk_far (p := ⟨w.heap.size + 1 + 1, 0, none⟩) HF.out (show t1_ ≠ w.heap.size + 1 + 1 by omega) (.int .i64 t0)) (show t1_ ≠ w.heap.size + 1 + 1 by omega) (.int .i64 (-5)))
      replace HB := Aside0.mk (below_set (j := 1) (v := (.int .i64 (-5))) (below_set (j := 0) (v := (.int .i64 t0)) HB.out (show w.heap.size ≤ w.heap.size + 1 + 1 by omega)) (show w.heap.size ≤ w.heap.size + 1 + 1 by omega))
      generalize ((X6).setCell ⟨w.heap.size + 1 + 1, 0, none⟩ (.int .i64 t0)).setCell ⟨w.heap.size + 1 + 1, 1, none⟩ (.int .i64 (-5)) = X9 at *
      refine hK.out _ _ trivial (fun _ h => absurd rfl h) (fun _ => ?_)
      clear hK K hTU
      refine till_done (by kernel_rfl) ?_ _
      go_wp2
      have kHS := bc0 HS.out
      exact bodyPost_ret (v := .tuple #[.bool false, .agg #[.int .i64 t0, .int .i64 (-5)]]) (by simp [results, Tryd.results22, go_sem, kHS]) rfl ⟨rfl, HB.out⟩
  case isFalse e1 =>
    have d1 := same_fault e1
    simp only [Option.some.injEq, Prod.mk.injEq] at h
    obtain ⟨h1, h2, h3⟩ := h
    subst h1 h2 h3
    clear e1
    go_enter Tryd.func22, Tryd.ntmps22
    go_wp2_with fail
    refine (views_Validate.calls v0 vA va v1 u0 u1 _ (Kd.C_below HV1.out HB.out) ev1 HU.out).mono ?_
    rintro e w1 ⟨rfl, hb⟩
    replace HV := Aside0.mk (blk_call HV.out hb)
    replace HA := Aside0.mk (blk_call HA.out hb)
    replace HS := Aside0.mk (blk_call HS.out hb)
    replace HB := Aside0.mk (below_step HB.out hb)
    clear hb
    go_wp2_with fail
    have l1_t1 := blk_lt HV.out
    have l2_t1 := blk_lt HA.out
    have l3_t1 := blk_lt HS.out
    replace HV := Aside0.mk (blk_later HV.out (.cells #[.int .i64 u0, .int .i64 u1] 29))
    replace HA := Aside0.mk (blk_later HA.out (.cells #[.int .i64 u0, .int .i64 u1] 29))
    replace HS := Aside0.mk (blk_later HS.out (.cells #[.int .i64 u0, .int .i64 u1] 29))
    replace HB := Aside0.mk (below_alloc HB.out (.cells #[.int .i64 u0, .int .i64 u1] 29))
    have HF := Aside0.mk (blk_at (w := w1) (.cells #[.int .i64 u0, .int .i64 u1] 29))
    have hs1 : (w1.alloc (.cells #[.int .i64 u0, .int .i64 u1] 29)).heap.size = w1.heap.size + 1 := by simp
    generalize w1.alloc (.cells #[.int .i64 u0, .int .i64 u1] 29) = X2 at *
    generalize w1.heap.size = t1_ at *
    refine region_till 13 (fun _ => True) (fun w' : World => w'.cell? ⟨t1_, 0, none⟩ = some (.int .i64 u0) ∧ w'.cell? ⟨t1_, 1, none⟩ = some (.int .i64 u1)) (by kernel_rfl) ⟨trivial, ⟨bc0 (blk_drew HF.out) 0, bc0 (blk_drew HF.out) 1⟩⟩ (fun hTU => ?_)
    replace HV := Aside0.mk (blk_drew HV.out)
    replace HA := Aside0.mk (blk_drew HA.out)
    replace HS := Aside0.mk (blk_drew HS.out)
    replace HF := Aside0.mk (blk_drew HF.out)
    replace HB := Aside0.mk (below_drew1 HB.out)
    generalize X2.drew = X6 at *
    refine till_take (i := 0) (v := ?_) rfl (by kernel_rfl) (by kernel_rfl) (by kernel_rfl) (by kernel_rfl) (fun _ _ _ h => h) (Or.inl ⟨by rfl, ?_⟩) (by assumption) ?_
    rotate_left
    · (intro w_ hS_; (try dsimp only at hS_); go_simp; try with_reducible rfl)
    try simp only [Act.put, List.setIfInBounds_toArray, List.set_cons_zero, List.set_cons_succ]
    refine till_take (i := 1) (v := ?_) rfl (by kernel_rfl) (by kernel_rfl) (by kernel_rfl) (by kernel_rfl) (fun _ _ _ h => h) (Or.inl ⟨by rfl, ?_⟩) (by assumption) ?_
    rotate_left
    · (intro w_ hS_; (try dsimp only at hS_); go_simp; try with_reducible rfl)
    try simp only [Act.put, List.setIfInBounds_toArray, List.set_cons_zero, List.set_cons_succ]
    refine till_take (i := 2) (v := ?_) rfl (by kernel_rfl) (by kernel_rfl) (by kernel_rfl) (by kernel_rfl) (fun _ _ _ h => h) (Or.inl ⟨by rfl, ?_⟩) (by assumption) ?_
    rotate_left
    · (intro w_ hS_; (try dsimp only at hS_); go_simp; try with_reducible rfl)
    try simp only [Act.put, List.setIfInBounds_toArray, List.set_cons_zero, List.set_cons_succ]
    refine till_take (i := 3) (v := ?_) rfl (by kernel_rfl) (by kernel_rfl) (by kernel_rfl) (by kernel_rfl) (fun _ _ _ h => h) (Or.inl ⟨by rfl, ?_⟩) (by assumption) ?_
    rotate_left
    · (intro w_ hS_; (try dsimp only at hS_); go_simp; try with_reducible rfl)
    try simp only [Act.put, List.setIfInBounds_toArray, List.set_cons_zero, List.set_cons_succ]
    refine till_take (i := 4) (v := undef) rfl (by kernel_rfl) (by kernel_rfl) (by kernel_rfl) (by kernel_rfl) (fun _ _ _ h => h) (Or.inr ⟨by rfl, rfl⟩) (by assumption) ?_
    try simp only [Act.put, List.setIfInBounds_toArray, List.set_cons_zero, List.set_cons_succ]
    refine till_take (i := 5) (v := undef) rfl (by kernel_rfl) (by kernel_rfl) (by kernel_rfl) (by kernel_rfl) (fun _ _ _ h => h) (Or.inr ⟨by rfl, rfl⟩) (by assumption) ?_
    try simp only [Act.put, List.setIfInBounds_toArray, List.set_cons_zero, List.set_cons_succ]
    refine till_take (i := 6) (v := undef) rfl (by kernel_rfl) (by kernel_rfl) (by kernel_rfl) (by kernel_rfl) (fun _ _ _ h => h) (Or.inr ⟨by rfl, rfl⟩) (by assumption) ?_
    try simp only [Act.put, List.setIfInBounds_toArray, List.set_cons_zero, List.set_cons_succ]
    refine till_take (i := 11) (v := ?_) rfl (by kernel_rfl) (by kernel_rfl) (by kernel_rfl) (by kernel_rfl) (fun _ _ _ h => h) (Or.inl ⟨by rfl, ?_⟩) (by assumption) ?_
    rotate_left
    · (intro w_ hS_; (try dsimp only at hS_); go_simp; try with_reducible rfl)
    try simp only [Act.put, List.setIfInBounds_toArray, List.set_cons_zero, List.set_cons_succ]
    refine till_one (i := 7) (by kernel_rfl) rfl (fun K hK => ?_)
    go_simp
    refine hK.out _ _ trivial (fun _ _ => ⟨bc0 HF.out 0, bc0 HF.out 1⟩) (fun hTV => ?_)
    clear hK K hTU
    have hTU := hTV (by kernel_rfl) (by decide)
    clear hTV
    try simp only [Act.put, List.setIfInBounds_toArray, List.set_cons_zero, List.set_cons_succ]
    refine till_one (i := 8) (by kernel_rfl) rfl (fun K hK => ?_)
    go_simp
    refine hK.out _ _ trivial (fun _ _ => ⟨bc0 HF.out 0, bc0 HF.out 1⟩) (fun hTV => ?_)
    clear hK K hTU
    have hTU := hTV (by kernel_rfl) (by decide)
    clear hTV
    try simp only [Act.put, List.setIfInBounds_toArray, List.set_cons_zero, List.set_cons_succ]
    refine till_one (i := 9) (by kernel_rfl) rfl (fun K hK => ?_)
    go_simp
    refine hK.out _ _ trivial (fun _ _ => ⟨bc0 HF.out 0, bc0 HF.out 1⟩) (fun hTV => ?_)
    clear hK K hTU
    have hTU := hTV (by kernel_rfl) (by decide)
    clear hTV
    try simp only [Act.put, List.setIfInBounds_toArray, List.set_cons_zero, List.set_cons_succ]
    refine till_free (i := 10) (v := ?_) rfl (by decide) (by kernel_rfl) (by kernel_rfl) (by kernel_rfl) (fun _ _ _ h => h) (Or.inl ⟨by rfl, ?_⟩) ⟨hTU.1, fun _ => hTU.2⟩ ?_
    rotate_left
    · (intro w_ _; go_simp; try with_reducible rfl)
    try simp only [Act.put, List.setIfInBounds_toArray, List.set_cons_zero, List.set_cons_succ]
    refine till_free (i := 12) (v := ?_) rfl (by decide) (by kernel_rfl) (by kernel_rfl) (by kernel_rfl) (fun _ _ _ h => h) (Or.inl ⟨by rfl, ?_⟩) ⟨hTU.1, fun _ => hTU.2⟩ ?_
    rotate_left
    · (intro w_ _; go_simp; try with_reducible rfl)
    try simp only [Act.put, List.setIfInBounds_toArray, List.set_cons_zero, List.set_cons_succ]
    refine till_one (i := 13) (by kernel_rfl) rfl (fun K hK => ?_)
    have kHS := bc0 HS.out
    have fHS := bf0 HS.out
    have yHS := blk_lt HS.out
    go_simp
    clear kHS fHS yHS
    replace HV := Aside0.mk (blk_far (p := ⟨w.heap.size + 1 + 1, 1, none⟩) (blk_far (p := ⟨w.heap.size + 1 + 1, 0, none⟩) HV.out (show w.heap.size ≠ w.heap.size + 1 + 1 by omega) (.int .i64 u0)) (show w.heap.size ≠ w.heap.size + 1 + 1 by omega) (.int .i64 u1))
    replace HA := Aside0.mk (blk_far (p := ⟨w.heap.size + 1 + 1, 1, none⟩) (blk_far (p := ⟨w.heap.size + 1 + 1, 0, none⟩) HA.out (show w.heap.size + 1 ≠ w.heap.size + 1 + 1 by omega) (.int .i64 u0)) (show w.heap.size + 1 ≠ w.heap.size + 1 + 1 by omega) (.int .i64 u1))
    replace HS : Aside0 ((((X6).setCell ⟨w.heap.size + 1 + 1, 0, none⟩ (.int .i64 u0)).setCell ⟨w.heap.size + 1 + 1, 1, none⟩ (.int .i64 u1)).heap[w.heap.size + 1 + 1]? = some (.cells #[(.int .i64 u0), (.int .i64 u1)] 29 (0, 0))) := Aside0.mk (blk_put (blk_put HS.out 0 (.int .i64 u0) rfl) 1 (.int .i64 u1) rfl)
    replace HF := Aside0.mk (blk_far (p := ⟨w.heap.size + 1 + 1, 1, none⟩) (blk_far (p := ⟨w.heap.size + 1 + 1, 0, none⟩) HF.out (show t1_ ≠ w.heap.size + 1 + 1 by omega) (.int .i64 u0)) (show t1_ ≠ w.heap.size + 1 + 1 by omega) (.int .i64 u1))
    replace HB := Aside0.mk (below_set (j := 1) (v := (.int .i64 u1)) (below_set (j := 0) (v := (.int .i64 u0)) HB.out (show w.heap.size ≤ w.heap.size + 1 + 1 by omega)) (show w.heap.size ≤ w.heap.size + 1 + 1 by omega))
    generalize ((X6).setCell ⟨w.heap.size + 1 + 1, 0, none⟩ (.int .i64 u0)).setCell ⟨w.heap.size + 1 + 1, 1, none⟩ (.int .i64 u1) = X9 at *
    refine hK.out _ _ trivial (fun _ h => absurd rfl h) (fun _ => ?_)
    clear hK K hTU
    refine till_done (by kernel_rfl) ?_ _
    go_wp2
    have kHS := bc0 HS.out
    exact bodyPost_ret (v := .tuple #[.bool false, .agg #[.int .i64 u0, .int .i64 u1]]) (by simp [results, Tryd.results22, go_sem, kHS]) rfl ⟨rfl, HB.out⟩


end Go.Proofs.YtbnmddippoiabaaDoor.P
