/- Functions of this seat as Lean functions, and that the Go code comes to their answers: written by a program of this session's. -/
import Derived.Test.YtbnmddippoiabaaDoorO17x25
import Derived.Test.YtbnmddippoiabaaDoorO17x10
import Derived.Test.YtbnmddippoiabaaDoorO17x20
import Derived.Test.YtbnmddippoiabaaDoorO17x32
import Derived.Test.YtbnmddippoiabaaDoorO17x35
import Derived.Test.YtbnmddippoiabaaDoorO17x37
namespace Go.Proofs.YtbnmddippoiabaaDoor.P
open Go.RowKit Go.Proofs.YtbnmddippoiabaaDoorW.PrintWords Go.Proofs.YtbnmddippoiabaaDoorW.PrintLast Go.Proofs.YtbnmddippoiabaaDoorW.PrintMore
attribute [local go_sem] max2_int min2_int max_two min_two max_three min_three max_four min_four   -- for this text's walks alone
set_option linter.unusedVariables false
set_option linter.unusedSimpArgs false

/-! ### resync_Catch: function 21 -/
theorem blk_at3c {w : World} (o1 o2 o3 o4 : Obj) : ((((w.alloc o1).alloc o2).alloc o3).alloc o4).heap[w.heap.size + 1 + 1 + 1]? = some o4 := by simpa using blk_new (((w.alloc o1).alloc o2).alloc o3) o4
def resync_Catch.f (k : Nat) (a0 a1 a2 : Int) (l3 : List (S55)) (l4 : List (S75)) (v0 : Int) (l : List (S83)) : Option (Int × List (S83) × Bool × Int × Int) :=
  (mailbox_Validate.f k a0 a1 a2 l3 l4).bind fun t => if t = (0, 0) then (views_Validate.f v0 l).bind fun u => if u = (0, 0) ∧ v0 ≤ a1 then (resync_Changes.f k a0 a1 a2 l3 l4 v0).bind fun c => if c.2.2 = true then (views_With.f v0 l c.1 c.2.1 a1).bind fun r => some (r.1, r.2, false, 0, 0) else none else none else none
theorem resync_Catch.mono : ∀ a0 a1 a2 a3 a4 a5 a6 k, LeO (resync_Catch.f k a0 a1 a2 a3 a4 a5 a6) (resync_Catch.f (k + 1) a0 a1 a2 a3 a4 a5 a6) := by
  intro a0 a1 a2 a3 a4 a5 a6 k
  unfold resync_Catch.f
  exact LeO.bind (mailbox_Validate.mono _ _ _ _ _ _) (fun _ => LeO.ite (LeO.bind (LeO.refl _) (fun _ => LeO.ite (LeO.bind (resync_Changes.mono _ _ _ _ _ _ _) (fun _ => LeO.refl _)) (LeO.none _))) (LeO.none _))
attribute [local go_sem high] eqFault
set_option maxHeartbeats 4000000 in
set_option maxRecDepth 100000 in
theorem resync_Catch.calls (k : Nat) (a0 a1 a2 : Int) (aA : Option Addr) (aa : Nat) (a3 : List (S55)) (aB : Option Addr) (ab : Nat) (a4 : List (S75)) (v0 : Int) (vA : Option Addr) (va : Nat) (v1 : List (S83)) (r1 : Int) (r2 : List (S83)) (r3 : Bool) (r4 r5 : Int) (w : World) (ha3 : Kd.C k55 w aA a3.length a3) (ea3 : a3.length ≤ aa) (ha4 : Kd.C k75 w aB a4.length a4) (ea4 : a4.length ≤ ab) (hv1 : Kd.C k83 w vA v1.length v1) (ev1 : v1.length ≤ va) (h : resync_Catch.f k a0 a1 a2 a3 a4 v0 v1 = some (r1, r2, r3, r4, r5)) :
    Calls Tryd.prog 21 #[.agg #[.int .i64 a0, .int .i64 a1, .int .i64 a2, .slice aA a3.length aa, .slice aB a4.length ab], .agg #[.int .i64 v0, .slice vA v1.length va]] w fun e w' => ∃ v1_ : Value, e = .returned (.tuple #[.agg #[.int .i64 r1, v1_], .bool r3, .agg #[.int .i64 r4, .int .i64 r5]]) ∧ Kd.R k83 83 w' w.heap.size (fun _ => True) v1_ r2 ∧ Below w.heap.size w w' := by
  unfold resync_Catch.f at h
  obtain ⟨t, ht, h⟩ := Option.bind_eq_some_iff.1 h
  split at h
  case isFalse => cases h
  case isTrue e1 =>
  subst e1
  obtain ⟨u, hu, h⟩ := Option.bind_eq_some_iff.1 h
  split at h
  case isFalse => cases h
  case isTrue e2 =>
  obtain ⟨e2, e3⟩ := e2
  subst e2
  obtain ⟨⟨ch, vn, kn⟩, hc, h⟩ := Option.bind_eq_some_iff.1 h
  dsimp only at h
  split at h
  case isFalse => cases h
  case isTrue e4 =>
  subst e4
  obtain ⟨⟨s1, s2⟩, hw, h⟩ := Option.bind_eq_some_iff.1 h
  have hq := Option.some.inj h
  simp only [Prod.mk.injEq] at hq
  clear h
  obtain ⟨h1, h2, h3, h4, h5⟩ := hq
  subst h3 h4 h5
  obtain rfl := h1.symm
  obtain rfl := h2.symm
  clear h1 h2
  have d3 : decide (a1 < v0) = false := decide_eq_false (by omega)
  clear e3
  have HA3 := Aside0.mk ha3
  have HA4 := Aside0.mk ha4
  have HV1 := Aside0.mk hv1
  have HT := Aside0.mk ht
  have HU := Aside0.mk hu
  have HC := Aside0.mk hc
  have HW := Aside0.mk hw
  clear ha3 ha4 hv1 ht hu hc hw
  have hus := Tryd.underlying25
  have huv := Tryd.underlying47
  have huf := Tryd.underlying29
  have HB := Aside0.mk (below_alloc (below_alloc (below_alloc (below_alloc (Below.refl w.heap.size w) (.cells #[.int .i64 a0, .int .i64 a1, .int .i64 a2, .slice aA a3.length aa, .slice aB a4.length ab] 25)) (.cells #[.int .i64 v0, .slice vA v1.length va] 47)) (.cells #[.int .i64 0, .slice none 0 0] 47)) (.cells #[.int .i64 0, .int .i64 0] 29))
  have HA := Aside0.mk (blk_later (blk_later (blk_later (blk_at (w := w) (.cells #[.int .i64 a0, .int .i64 a1, .int .i64 a2, .slice aA a3.length aa, .slice aB a4.length ab] 25)) (.cells #[.int .i64 v0, .slice vA v1.length va] 47)) (.cells #[.int .i64 0, .slice none 0 0] 47)) (.cells #[.int .i64 0, .int .i64 0] 29))
  have HV := Aside0.mk (blk_later (blk_later (blk_at1 (w := w) (.cells #[.int .i64 a0, .int .i64 a1, .int .i64 a2, .slice aA a3.length aa, .slice aB a4.length ab] 25) (.cells #[.int .i64 v0, .slice vA v1.length va] 47)) (.cells #[.int .i64 0, .slice none 0 0] 47)) (.cells #[.int .i64 0, .int .i64 0] 29))
  have HR := Aside0.mk (blk_later (blk_at2 (w := w) (.cells #[.int .i64 a0, .int .i64 a1, .int .i64 a2, .slice aA a3.length aa, .slice aB a4.length ab] 25) (.cells #[.int .i64 v0, .slice vA v1.length va] 47) (.cells #[.int .i64 0, .slice none 0 0] 47)) (.cells #[.int .i64 0, .int .i64 0] 29))
  have HS := Aside0.mk (blk_at3c (w := w) (.cells #[.int .i64 a0, .int .i64 a1, .int .i64 a2, .slice aA a3.length aa, .slice aB a4.length ab] 25) (.cells #[.int .i64 v0, .slice vA v1.length va] 47) (.cells #[.int .i64 0, .slice none 0 0] 47) (.cells #[.int .i64 0, .int .i64 0] 29))
  go_enter Tryd.func21, Tryd.ntmps21
  go_wp2_with fail
  refine (mailbox_Validate.calls k a0 a1 a2 aA aa a3 aB ab a4 0 0 _ (Kd.C_below HA3.out HB.out) ea3 (Kd.C_below HA4.out HB.out) ea4 HT.out).mono ?_
  rintro e w1 ⟨rfl, hb⟩
  replace HA := Aside0.mk (blk_call HA.out hb)
  replace HV := Aside0.mk (blk_call HV.out hb)
  replace HR := Aside0.mk (blk_call HR.out hb)
  replace HS := Aside0.mk (blk_call HS.out hb)
  replace HB := Aside0.mk (below_step HB.out hb)
  clear hb
  have kHV := bc0 HV.out
  have mHV := bc1 HV.out
  have nHV := bc2 HV.out
  have fHV := bf0 HV.out
  have yHV := blk_lt HV.out
  go_wp2_with fail
  clear kHV mHV nHV fHV yHV
  have l1_t1 := blk_lt HA.out
  have l2_t1 := blk_lt HV.out
  have l3_t1 := blk_lt HR.out
  have l4_t1 := blk_lt HS.out
  replace HA := Aside0.mk (blk_later HA.out (.cells #[.int .i64 0, .int .i64 0] 29))
  replace HV := Aside0.mk (blk_later HV.out (.cells #[.int .i64 0, .int .i64 0] 29))
  replace HR := Aside0.mk (blk_later HR.out (.cells #[.int .i64 0, .int .i64 0] 29))
  replace HS := Aside0.mk (blk_later HS.out (.cells #[.int .i64 0, .int .i64 0] 29))
  replace HB := Aside0.mk (below_alloc HB.out (.cells #[.int .i64 0, .int .i64 0] 29))
  have HF := Aside0.mk (blk_at (w := w1) (.cells #[.int .i64 0, .int .i64 0] 29))
  have hs1 : (w1.alloc (.cells #[.int .i64 0, .int .i64 0] 29)).heap.size = w1.heap.size + 1 := by simp
  generalize w1.alloc (.cells #[.int .i64 0, .int .i64 0] 29) = X2 at *
  generalize w1.heap.size = t1_ at *
  refine (views_Validate.calls v0 vA va v1 0 0 _ (Kd.C_below HV1.out HB.out) ev1 HU.out).mono ?_
  rintro e w3 ⟨rfl, hb⟩
  replace HA := Aside0.mk (blk_call HA.out hb)
  replace HV := Aside0.mk (blk_call HV.out hb)
  replace HR := Aside0.mk (blk_call HR.out hb)
  replace HS := Aside0.mk (blk_call HS.out hb)
  replace HF := Aside0.mk (blk_call HF.out hb)
  replace HB := Aside0.mk (below_step HB.out hb)
  clear hb
  have ne1 := eq_false (show ¬ (w.heap.size = t1_) by omega)
  have ne2 := eq_false (show ¬ (t1_ = w.heap.size) by omega)
  have ne3 := eq_false (show ¬ (w.heap.size + 1 = t1_) by omega)
  have ne4 := eq_false (show ¬ (t1_ = w.heap.size + 1) by omega)
  have kHF := bc0 HF.out
  have mHF := bc1 HF.out
  have nHF := bc2 HF.out
  have fHF := bf0 HF.out
  have yHF := blk_lt HF.out
  have kHA := bc0 HA.out
  have mHA := bc1 HA.out
  have nHA := bc2 HA.out
  have fHA := bf0 HA.out
  have yHA := blk_lt HA.out
  have kHV := bc0 HV.out
  have mHV := bc1 HV.out
  have nHV := bc2 HV.out
  have fHV := bf0 HV.out
  have yHV := blk_lt HV.out
  go_wp2_with fail
  clear kHF mHF nHF fHF yHF kHA mHA nHA fHA yHA kHV mHV nHV fHV yHV
  replace HA := Aside0.mk (blk_far (p := ⟨t1_, 1, none⟩) (blk_far (p := ⟨t1_, 0, none⟩) HA.out (show w.heap.size ≠ t1_ by omega) (.int .i64 0)) (show w.heap.size ≠ t1_ by omega) (.int .i64 0))
  replace HV := Aside0.mk (blk_far (p := ⟨t1_, 1, none⟩) (blk_far (p := ⟨t1_, 0, none⟩) HV.out (show w.heap.size + 1 ≠ t1_ by omega) (.int .i64 0)) (show w.heap.size + 1 ≠ t1_ by omega) (.int .i64 0))
  replace HR := Aside0.mk (blk_far (p := ⟨t1_, 1, none⟩) (blk_far (p := ⟨t1_, 0, none⟩) HR.out (show w.heap.size + 1 + 1 ≠ t1_ by omega) (.int .i64 0)) (show w.heap.size + 1 + 1 ≠ t1_ by omega) (.int .i64 0))
  replace HS := Aside0.mk (blk_far (p := ⟨t1_, 1, none⟩) (blk_far (p := ⟨t1_, 0, none⟩) HS.out (show w.heap.size + 1 + 1 + 1 ≠ t1_ by omega) (.int .i64 0)) (show w.heap.size + 1 + 1 + 1 ≠ t1_ by omega) (.int .i64 0))
  replace HF : Aside0 ((((w3).setCell ⟨t1_, 0, none⟩ (.int .i64 0)).setCell ⟨t1_, 1, none⟩ (.int .i64 0)).heap[t1_]? = some (.cells #[(.int .i64 0), (.int .i64 0)] 29 (0, 0))) := Aside0.mk (blk_put (blk_put HF.out 0 (.int .i64 0) rfl) 1 (.int .i64 0) rfl)
  replace HB := Aside0.mk (below_set (j := 1) (v := (.int .i64 0)) (below_set (j := 0) (v := (.int .i64 0)) HB.out (show w.heap.size ≤ t1_ by omega)) (show w.heap.size ≤ t1_ by omega))
  generalize ((w3).setCell ⟨t1_, 0, none⟩ (.int .i64 0)).setCell ⟨t1_, 1, none⟩ (.int .i64 0) = X4 at *
  refine (resync_Changes.calls k a0 a1 a2 aA aa a3 aB ab a4 v0 ch vn true _ (Kd.C_below HA3.out HB.out) ea3 (Kd.C_below HA4.out HB.out) ea4 HC.out).mono ?_
  rintro e w5 ⟨v0_, v1_, rfl, hc0, hc1, hb⟩
  obtain ⟨cA, ca, rfl⟩ := Kd.R_slice hc0
  obtain ⟨nA, na, rfl⟩ := Kd.R_slice hc1
  have HcV := Aside0.mk (Kd.R_V (base' := 0) hc0)
  have HnV := Aside0.mk (Kd.R_V (base' := 0) hc1)
  clear hc0 hc1
  replace HA := Aside0.mk (blk_call HA.out hb)
  replace HV := Aside0.mk (blk_call HV.out hb)
  replace HR := Aside0.mk (blk_call HR.out hb)
  replace HS := Aside0.mk (blk_call HS.out hb)
  replace HF := Aside0.mk (blk_call HF.out hb)
  replace HB := Aside0.mk (below_step HB.out hb)
  clear hb
  go_wp2_with fail
  refine region_till 9 (fun _ => True) (fun w' : World => w'.cell? ⟨w.heap.size + 1, 0, none⟩ = some (.int .i64 v0) ∧ w'.cell? ⟨w.heap.size + 1, 1, none⟩ = some (.slice vA v1.length va) ∧ w'.cell? ⟨w.heap.size, 1, none⟩ = some (.int .i64 a1) ∧ w'.cell? ⟨t1_, 0, none⟩ = some (.int .i64 0) ∧ w'.cell? ⟨t1_, 1, none⟩ = some (.int .i64 0)) (by kernel_rfl) ⟨trivial, ⟨bc0 (blk_drew HV.out) 0, bc0 (blk_drew HV.out) 1, bc0 (blk_drew HA.out) 1, bc0 (blk_drew HF.out) 0, bc0 (blk_drew HF.out) 1⟩⟩ (fun hTU => ?_)
  replace HA := Aside0.mk (blk_drew HA.out)
  replace HV := Aside0.mk (blk_drew HV.out)
  replace HR := Aside0.mk (blk_drew HR.out)
  replace HS := Aside0.mk (blk_drew HS.out)
  replace HF := Aside0.mk (blk_drew HF.out)
  replace HcV := Aside0.mk (Kd.V_drew HcV.out)
  replace HnV := Aside0.mk (Kd.V_drew HnV.out)
  replace HB := Aside0.mk (below_drew1 HB.out)
  generalize w5.drew = X6 at *
  refine till_take (i := 0) (v := ?_) rfl (by kernel_rfl) (by kernel_rfl) (by kernel_rfl) (by kernel_rfl) (fun _ _ _ h => h) (Or.inl ⟨by rfl, ?_⟩) (by assumption) ?_
  rotate_left
  · (intro w_ hS_; (try dsimp only at hS_); go_simp; try with_reducible rfl)
  try simp only [Act.put, List.setIfInBounds_toArray, List.set_cons_zero, List.set_cons_succ]
  refine till_take (i := 1) (v := ?_) rfl (by kernel_rfl) (by kernel_rfl) (by kernel_rfl) (by kernel_rfl) (fun _ _ _ h => h) (Or.inl ⟨by rfl, ?_⟩) (by assumption) ?_
  rotate_left
  · (intro w_ hS_; (try dsimp only at hS_); go_simp; try with_reducible rfl)
  try simp only [Act.put, List.setIfInBounds_toArray, List.set_cons_zero, List.set_cons_succ]
  refine till_take (i := 2) (v := ?_) rfl (by kernel_rfl) (by kernel_rfl) (by kernel_rfl) (by kernel_rfl) (fun _ _ _ h => h) (Or.inl ⟨by rfl, ?_⟩) (by assumption) ?_
  rotate_left
  · (intro w_ hS_; (try dsimp only at hS_); go_simp; try with_reducible rfl)
  try simp only [Act.put, List.setIfInBounds_toArray, List.set_cons_zero, List.set_cons_succ]
  refine till_take (i := 3) (v := ?_) rfl (by kernel_rfl) (by kernel_rfl) (by kernel_rfl) (by kernel_rfl) (fun _ _ _ h => h) (Or.inl ⟨by rfl, ?_⟩) (by assumption) ?_
  rotate_left
  · (intro w_ hS_; (try dsimp only at hS_); go_simp; try with_reducible rfl)
  try simp only [Act.put, List.setIfInBounds_toArray, List.set_cons_zero, List.set_cons_succ]
  refine till_take (i := 4) (v := ?_) rfl (by kernel_rfl) (by kernel_rfl) (by kernel_rfl) (by kernel_rfl) (fun _ _ _ h => h) (Or.inl ⟨by rfl, ?_⟩) (by assumption) ?_
  rotate_left
  · (intro w_ hS_; (try dsimp only at hS_); go_simp; try with_reducible rfl)
  try simp only [Act.put, List.setIfInBounds_toArray, List.set_cons_zero, List.set_cons_succ]
  refine till_take (i := 6) (v := ?_) rfl (by kernel_rfl) (by kernel_rfl) (by kernel_rfl) (by kernel_rfl) (fun _ _ _ h => h) (Or.inl ⟨by rfl, ?_⟩) (by assumption) ?_
  rotate_left
  · (intro w_ hS_; (try dsimp only at hS_); go_simp; try with_reducible rfl)
  try simp only [Act.put, List.setIfInBounds_toArray, List.set_cons_zero, List.set_cons_succ]
  refine till_one (i := 5) (by kernel_rfl) rfl (fun K hK => ?_)
  go_simp
  go_at_call 41
  refine (views_With.calls v0 vA va v1 cA ca ch nA na vn a1 r1 r2 _ (Kd.C_below HV1.out HB.out) ev1 (Kd.F_now (Kd.V_F HcV.out)) (Kd.V_at HcV.out).2.1 (Kd.F_now (Kd.V_F HnV.out)) (Kd.V_at HnV.out).2.1 HW.out).mono ?_
  rintro e w7 ⟨v1_, rfl, hr, hb⟩
  obtain ⟨rA, ra, rfl⟩ := Kd.R_slice hr
  have hsz := below_size HB.out
  have yS := blk_lt HS.out
  have HN := Aside0.mk (Kd.N_lower (seen_ok (ok' := fun k_ => X6.heap.size ≤ k_) (Kd.R_N hr) (Kd.N_base (Kd.R_N hr))) hsz)
  clear hr
  replace HA := Aside0.mk (blk_call HA.out hb)
  replace HV := Aside0.mk (blk_call HV.out hb)
  replace HR := Aside0.mk (blk_call HR.out hb)
  replace HS := Aside0.mk (blk_call HS.out hb)
  replace HF := Aside0.mk (blk_call HF.out hb)
  replace HB := Aside0.mk (below_step HB.out hb)
  clear hb
  refine hK.out _ _ trivial (fun _ _ => ⟨bc0 HV.out 0, bc0 HV.out 1, bc0 HA.out 1, bc0 HF.out 0, bc0 HF.out 1⟩) (fun hTV => ?_)
  clear hK K hTU
  have hTU := hTV (by kernel_rfl) (by decide)
  clear hTV
  try simp only [Act.put, List.setIfInBounds_toArray, List.set_cons_zero, List.set_cons_succ]
  refine till_one (i := 7) (by kernel_rfl) rfl (fun K hK => ?_)
  have kHR := bc0 HR.out
  have fHR := bf0 HR.out
  have yHR := blk_lt HR.out
  go_simp
  clear kHR fHR yHR
  replace HN := Aside0.mk (Kd.N_far (p := ⟨w.heap.size + 1 + 1, 1, none⟩) (Kd.N_far (p := ⟨w.heap.size + 1 + 1, 0, none⟩) HN.out (fun k_ hk_ => by show k_ ≠ w.heap.size + 1 + 1; omega) (.int .i64 r1)) (fun k_ hk_ => by show k_ ≠ w.heap.size + 1 + 1; omega) (.slice rA r2.length ra))
  replace HA := Aside0.mk (blk_far (p := ⟨w.heap.size + 1 + 1, 1, none⟩) (blk_far (p := ⟨w.heap.size + 1 + 1, 0, none⟩) HA.out (show w.heap.size ≠ w.heap.size + 1 + 1 by omega) (.int .i64 r1)) (show w.heap.size ≠ w.heap.size + 1 + 1 by omega) (.slice rA r2.length ra))
  replace HV := Aside0.mk (blk_far (p := ⟨w.heap.size + 1 + 1, 1, none⟩) (blk_far (p := ⟨w.heap.size + 1 + 1, 0, none⟩) HV.out (show w.heap.size + 1 ≠ w.heap.size + 1 + 1 by omega) (.int .i64 r1)) (show w.heap.size + 1 ≠ w.heap.size + 1 + 1 by omega) (.slice rA r2.length ra))
  replace HR : Aside0 ((((w7).setCell ⟨w.heap.size + 1 + 1, 0, none⟩ (.int .i64 r1)).setCell ⟨w.heap.size + 1 + 1, 1, none⟩ (.slice rA r2.length ra)).heap[w.heap.size + 1 + 1]? = some (.cells #[(.int .i64 r1), (.slice rA r2.length ra)] 47 (0, 0))) := Aside0.mk (blk_put (blk_put HR.out 0 (.int .i64 r1) rfl) 1 (.slice rA r2.length ra) rfl)
  replace HS := Aside0.mk (blk_far (p := ⟨w.heap.size + 1 + 1, 1, none⟩) (blk_far (p := ⟨w.heap.size + 1 + 1, 0, none⟩) HS.out (show w.heap.size + 1 + 1 + 1 ≠ w.heap.size + 1 + 1 by omega) (.int .i64 r1)) (show w.heap.size + 1 + 1 + 1 ≠ w.heap.size + 1 + 1 by omega) (.slice rA r2.length ra))
  replace HF := Aside0.mk (blk_far (p := ⟨w.heap.size + 1 + 1, 1, none⟩) (blk_far (p := ⟨w.heap.size + 1 + 1, 0, none⟩) HF.out (show t1_ ≠ w.heap.size + 1 + 1 by omega) (.int .i64 r1)) (show t1_ ≠ w.heap.size + 1 + 1 by omega) (.slice rA r2.length ra))
  replace HB := Aside0.mk (below_set (j := 1) (v := (.slice rA r2.length ra)) (below_set (j := 0) (v := (.int .i64 r1)) HB.out (show w.heap.size ≤ w.heap.size + 1 + 1 by omega)) (show w.heap.size ≤ w.heap.size + 1 + 1 by omega))
  generalize ((w7).setCell ⟨w.heap.size + 1 + 1, 0, none⟩ (.int .i64 r1)).setCell ⟨w.heap.size + 1 + 1, 1, none⟩ (.slice rA r2.length ra) = X8 at *
  refine hK.out _ _ trivial (fun _ _ => ⟨bc0 HV.out 0, bc0 HV.out 1, bc0 HA.out 1, bc0 HF.out 0, bc0 HF.out 1⟩) (fun hTV => ?_)
  clear hK K hTU
  have hTU := hTV (by kernel_rfl) (by decide)
  clear hTV
  try simp only [Act.put, List.setIfInBounds_toArray, List.set_cons_zero, List.set_cons_succ]
  refine till_take (i := 8) (v := ?_) rfl (by kernel_rfl) (by kernel_rfl) (by kernel_rfl) (by kernel_rfl) (fun _ _ _ h => h) (Or.inl ⟨by rfl, ?_⟩) (by assumption) ?_
  rotate_left
  · (intro w_ hS_; (try dsimp only at hS_); go_simp; try with_reducible rfl)
  try simp only [Act.put, List.setIfInBounds_toArray, List.set_cons_zero, List.set_cons_succ]
  refine till_one (i := 9) (by kernel_rfl) rfl (fun K hK => ?_)
  have kHS := bc0 HS.out
  have fHS := bf0 HS.out
  have yHS := blk_lt HS.out
  go_simp
  clear kHS fHS yHS
  replace HN := Aside0.mk (Kd.N_far (p := ⟨w.heap.size + 1 + 1 + 1, 1, none⟩) (Kd.N_far (p := ⟨w.heap.size + 1 + 1 + 1, 0, none⟩) HN.out (fun k_ hk_ => by show k_ ≠ w.heap.size + 1 + 1 + 1; omega) (.int .i64 0)) (fun k_ hk_ => by show k_ ≠ w.heap.size + 1 + 1 + 1; omega) (.int .i64 0))
  replace HA := Aside0.mk (blk_far (p := ⟨w.heap.size + 1 + 1 + 1, 1, none⟩) (blk_far (p := ⟨w.heap.size + 1 + 1 + 1, 0, none⟩) HA.out (show w.heap.size ≠ w.heap.size + 1 + 1 + 1 by omega) (.int .i64 0)) (show w.heap.size ≠ w.heap.size + 1 + 1 + 1 by omega) (.int .i64 0))
  replace HV := Aside0.mk (blk_far (p := ⟨w.heap.size + 1 + 1 + 1, 1, none⟩) (blk_far (p := ⟨w.heap.size + 1 + 1 + 1, 0, none⟩) HV.out (show w.heap.size + 1 ≠ w.heap.size + 1 + 1 + 1 by omega) (.int .i64 0)) (show w.heap.size + 1 ≠ w.heap.size + 1 + 1 + 1 by omega) (.int .i64 0))
  replace HR := Aside0.mk (blk_far (p := ⟨w.heap.size + 1 + 1 + 1, 1, none⟩) (blk_far (p := ⟨w.heap.size + 1 + 1 + 1, 0, none⟩) HR.out (show w.heap.size + 1 + 1 ≠ w.heap.size + 1 + 1 + 1 by omega) (.int .i64 0)) (show w.heap.size + 1 + 1 ≠ w.heap.size + 1 + 1 + 1 by omega) (.int .i64 0))
  replace HS : Aside0 ((((X8).setCell ⟨w.heap.size + 1 + 1 + 1, 0, none⟩ (.int .i64 0)).setCell ⟨w.heap.size + 1 + 1 + 1, 1, none⟩ (.int .i64 0)).heap[w.heap.size + 1 + 1 + 1]? = some (.cells #[(.int .i64 0), (.int .i64 0)] 29 (0, 0))) := Aside0.mk (blk_put (blk_put HS.out 0 (.int .i64 0) rfl) 1 (.int .i64 0) rfl)
  replace HF := Aside0.mk (blk_far (p := ⟨w.heap.size + 1 + 1 + 1, 1, none⟩) (blk_far (p := ⟨w.heap.size + 1 + 1 + 1, 0, none⟩) HF.out (show t1_ ≠ w.heap.size + 1 + 1 + 1 by omega) (.int .i64 0)) (show t1_ ≠ w.heap.size + 1 + 1 + 1 by omega) (.int .i64 0))
  replace HB := Aside0.mk (below_set (j := 1) (v := (.int .i64 0)) (below_set (j := 0) (v := (.int .i64 0)) HB.out (show w.heap.size ≤ w.heap.size + 1 + 1 + 1 by omega)) (show w.heap.size ≤ w.heap.size + 1 + 1 + 1 by omega))
  generalize ((X8).setCell ⟨w.heap.size + 1 + 1 + 1, 0, none⟩ (.int .i64 0)).setCell ⟨w.heap.size + 1 + 1 + 1, 1, none⟩ (.int .i64 0) = X9 at *
  refine hK.out _ _ trivial (fun _ h => absurd rfl h) (fun _ => ?_)
  clear hK K hTU
  refine till_done (by kernel_rfl) ?_ _
  go_wp2
  have kHR := bc0 HR.out
  have kHS := bc0 HS.out
  exact bodyPost_ret (v := .tuple #[.agg #[.int .i64 r1, (.slice rA r2.length ra)], .bool false, .agg #[.int .i64 0, .int .i64 0]]) (by simp [results, Tryd.results21, go_sem, kHR, kHS]) rfl ⟨_, rfl, seen_R HN.out, HB.out⟩


end Go.Proofs.YtbnmddippoiabaaDoor.P
