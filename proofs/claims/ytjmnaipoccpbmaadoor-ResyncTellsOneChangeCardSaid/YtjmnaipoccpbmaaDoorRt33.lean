/- Several texts in one, each in its own section. The last: Functions of this seat as Lean functions, and that the Go code comes to their answers: written by a program of this session's. -/
import Derived.Test.YtjmnaipoccpbmaaDoorRt30
import Derived.Test.YtjmnaipoccpbmaaDoorRt10
import Derived.Test.YtjmnaipoccpbmaaDoorRt20
import Derived.Test.YtjmnaipoccpbmaaDoorRt27
import Derived.Test.YtjmnaipoccpbmaaDoorRt32
/- Functions of this seat as Lean functions, and that the Go code comes to their answers: written by a program of this session's. -/
section
namespace Go.Proofs.YtjmnaipoccpbmaaDoor.P
open Go.RowKit Go.Proofs.YtjmnaipoccpbmaaDoorW.PrintWords Go.Proofs.YtjmnaipoccpbmaaDoorW.PrintLast Go.Proofs.YtjmnaipoccpbmaaDoorW.PrintMore
attribute [local go_sem] max2_int min2_int max_two min_two max_three min_three max_four min_four   -- for this text's walks alone
set_option linter.unusedVariables false
set_option linter.unusedSimpArgs false

/-! ### resync_Catch: function 14 -/
theorem blk_at3c {w : World} (o1 o2 o3 o4 : Obj) : ((((w.alloc o1).alloc o2).alloc o3).alloc o4).heap[w.heap.size + 1 + 1 + 1]? = some o4 := by simpa using blk_new (((w.alloc o1).alloc o2).alloc o3) o4
def resync_Catch.f (k : Nat) (a0 a1 a2 : Int) (l3 : List (S78)) (l4 : List (S73)) (v0 : Int) (l : List (S58)) : Option (Int × List (S58) × Bool × Int × Int) :=
  (mailbox_Validate.f k a0 a1 a2 l3 l4).bind fun t => if t = (0, 0) then (views_Validate.f v0 l).bind fun u => if u = (0, 0) ∧ v0 ≤ a1 then (resync_Changes.f k a0 a1 a2 l3 l4 v0).bind fun c => if c.2.2 = true then (views_With.f v0 l c.1 c.2.1 a1).bind fun r => some (r.1, r.2, false, 0, 0) else none else none else none
theorem resync_Catch.mono : ∀ a0 a1 a2 a3 a4 a5 a6 k, LeO (resync_Catch.f k a0 a1 a2 a3 a4 a5 a6) (resync_Catch.f (k + 1) a0 a1 a2 a3 a4 a5 a6) := by
  intro a0 a1 a2 a3 a4 a5 a6 k
  unfold resync_Catch.f
  exact LeO.bind (mailbox_Validate.mono _ _ _ _ _ _) (fun _ => LeO.ite (LeO.bind (LeO.refl _) (fun _ => LeO.ite (LeO.bind (resync_Changes.mono _ _ _ _ _ _ _) (fun _ => LeO.refl _)) (LeO.none _))) (LeO.none _))
attribute [local go_sem high] eqFault
set_option maxHeartbeats 4000000 in
set_option maxRecDepth 100000 in
theorem resync_Catch.calls (k : Nat) (a0 a1 a2 : Int) (aA : Option Addr) (aa : Nat) (a3 : List (S78)) (aB : Option Addr) (ab : Nat) (a4 : List (S73)) (v0 : Int) (vA : Option Addr) (va : Nat) (v1 : List (S58)) (r1 : Int) (r2 : List (S58)) (r3 : Bool) (r4 r5 : Int) (w : World) (ha3 : Kd.C k78 w aA a3.length a3) (ea3 : a3.length ≤ aa) (ha4 : Kd.C k73 w aB a4.length a4) (ea4 : a4.length ≤ ab) (hv1 : Kd.C k58 w vA v1.length v1) (ev1 : v1.length ≤ va) (h : resync_Catch.f k a0 a1 a2 a3 a4 v0 v1 = some (r1, r2, r3, r4, r5)) :
    Calls Tryd.prog 14 #[.agg #[.int .i64 a0, .int .i64 a1, .int .i64 a2, .slice aA a3.length aa, .slice aB a4.length ab], .agg #[.int .i64 v0, .slice vA v1.length va]] w fun e w' => ∃ v1_ : Value, e = .returned (.tuple #[.agg #[.int .i64 r1, v1_], .bool r3, .agg #[.int .i64 r4, .int .i64 r5]]) ∧ Kd.R k58 58 w' w.heap.size (fun _ => True) v1_ r2 ∧ Below w.heap.size w w' := by
  unfold resync_Catch.f at h
  obtain ⟨t, ht, h⟩ := Option.bind_eq_some_iff.1 h
  split at h
  case isFalse => cases h
  case isTrue e1 =>
  subst e1
  obtain ⟨u, hu, h⟩ := Option.bind_eq_some_iff.1 h
  split at h
  case isFalse => cases h
  case isTrue e2 =>
  obtain ⟨e2, e3⟩ := e2
  subst e2
  obtain ⟨⟨ch, vn, kn⟩, hc, h⟩ := Option.bind_eq_some_iff.1 h
  dsimp only at h
  split at h
  case isFalse => cases h
  case isTrue e4 =>
  subst e4
  obtain ⟨⟨s1, s2⟩, hw, h⟩ := Option.bind_eq_some_iff.1 h
  have hq := Option.some.inj h
  simp only [Prod.mk.injEq] at hq
  clear h
  obtain ⟨h1, h2, h3, h4, h5⟩ := hq
  subst h3 h4 h5
  obtain rfl := h1.symm
  obtain rfl := h2.symm
  clear h1 h2
  have d3 : decide (a1 < v0) = false := decide_eq_false (by omega)
  clear e3
  have HA3 := Aside0.mk ha3
  have HA4 := Aside0.mk ha4
  have HV1 := Aside0.mk hv1
  have HT := Aside0.mk ht
  have HU := Aside0.mk hu
  have HC := Aside0.mk hc
  have HW := Aside0.mk hw
  clear ha3 ha4 hv1 ht hu hc hw
  have hus := Tryd.underlying25
  have huv := Tryd.underlying33
  have huf := Tryd.underlying35
  have HB := Aside0.mk (below_alloc (below_alloc (below_alloc (below_alloc (Below.refl w.heap.size w) (.cells #[.int .i64 a0, .int .i64 a1, .int .i64 a2, .slice aA a3.length aa, .slice aB a4.length ab] 25)) (.cells #[.int .i64 v0, .slice vA v1.length va] 33)) (.cells #[.int .i64 0, .slice none 0 0] 33)) (.cells #[.int .i64 0, .int .i64 0] 35))
  have HA := Aside0.mk (blk_later (blk_later (blk_later (blk_at (w := w) (.cells #[.int .i64 a0, .int .i64 a1, .int .i64 a2, .slice aA a3.length aa, .slice aB a4.length ab] 25)) (.cells #[.int .i64 v0, .slice vA v1.length va] 33)) (.cells #[.int .i64 0, .slice none 0 0] 33)) (.cells #[.int .i64 0, .int .i64 0] 35))
  have HV := Aside0.mk (blk_later (blk_later (blk_at1 (w := w) (.cells #[.int .i64 a0, .int .i64 a1, .int .i64 a2, .slice aA a3.length aa, .slice aB a4.length ab] 25) (.cells #[.int .i64 v0, .slice vA v1.length va] 33)) (.cells #[.int .i64 0, .slice none 0 0] 33)) (.cells #[.int .i64 0, .int .i64 0] 35))
  have HR := Aside0.mk (blk_later (blk_at2 (w := w) (.cells #[.int .i64 a0, .int .i64 a1, .int .i64 a2, .slice aA a3.length aa, .slice aB a4.length ab] 25) (.cells #[.int .i64 v0, .slice vA v1.length va] 33) (.cells #[.int .i64 0, .slice none 0 0] 33)) (.cells #[.int .i64 0, .int .i64 0] 35))
  have HS := Aside0.mk (blk_at3c (w := w) (.cells #[.int .i64 a0, .int .i64 a1, .int .i64 a2, .slice aA a3.length aa, .slice aB a4.length ab] 25) (.cells #[.int .i64 v0, .slice vA v1.length va] 33) (.cells #[.int .i64 0, .slice none 0 0] 33) (.cells #[.int .i64 0, .int .i64 0] 35))
  go_enter Tryd.func14, Tryd.ntmps14
  go_wp2_with fail
  refine (mailbox_Validate.calls k a0 a1 a2 aA aa a3 aB ab a4 0 0 _ (Kd.C_below HA3.out HB.out) ea3 (Kd.C_below HA4.out HB.out) ea4 HT.out).mono ?_
  rintro e w1 ⟨rfl, hb⟩
  replace HA := Aside0.mk (blk_call HA.out hb)
  replace HV := Aside0.mk (blk_call HV.out hb)
  replace HR := Aside0.mk (blk_call HR.out hb)
  replace HS := Aside0.mk (blk_call HS.out hb)
  replace HB := Aside0.mk (below_step HB.out hb)
  clear hb
  have kHV := bc0 HV.out
  have mHV := bc1 HV.out
  have nHV := bc2 HV.out
  have fHV := bf0 HV.out
  have yHV := blk_lt HV.out
  go_wp2_with fail
  clear kHV mHV nHV fHV yHV
  have l1_t1 := blk_lt HA.out
  have l2_t1 := blk_lt HV.out
  have l3_t1 := blk_lt HR.out
  have l4_t1 := blk_lt HS.out
  replace HA := Aside0.mk (blk_later HA.out (.cells #[.int .i64 0, .int .i64 0] 35))
  replace HV := Aside0.mk (blk_later HV.out (.cells #[.int .i64 0, .int .i64 0] 35))
  replace HR := Aside0.mk (blk_later HR.out (.cells #[.int .i64 0, .int .i64 0] 35))
  replace HS := Aside0.mk (blk_later HS.out (.cells #[.int .i64 0, .int .i64 0] 35))
  replace HB := Aside0.mk (below_alloc HB.out (.cells #[.int .i64 0, .int .i64 0] 35))
  have HF := Aside0.mk (blk_at (w := w1) (.cells #[.int .i64 0, .int .i64 0] 35))
  have hs1 : (w1.alloc (.cells #[.int .i64 0, .int .i64 0] 35)).heap.size = w1.heap.size + 1 := by simp
  generalize w1.alloc (.cells #[.int .i64 0, .int .i64 0] 35) = X2 at *
  generalize w1.heap.size = t1_ at *
  refine (views_Validate.calls v0 vA va v1 0 0 _ (Kd.C_below HV1.out HB.out) ev1 HU.out).mono ?_
  rintro e w3 ⟨rfl, hb⟩
  replace HA := Aside0.mk (blk_call HA.out hb)
  replace HV := Aside0.mk (blk_call HV.out hb)
  replace HR := Aside0.mk (blk_call HR.out hb)
  replace HS := Aside0.mk (blk_call HS.out hb)
  replace HF := Aside0.mk (blk_call HF.out hb)
  replace HB := Aside0.mk (below_step HB.out hb)
  clear hb
  have ne1 := eq_false (show ¬ (w.heap.size = t1_) by omega)
  have ne2 := eq_false (show ¬ (t1_ = w.heap.size) by omega)
  have ne3 := eq_false (show ¬ (w.heap.size + 1 = t1_) by omega)
  have ne4 := eq_false (show ¬ (t1_ = w.heap.size + 1) by omega)
  have kHF := bc0 HF.out
  have mHF := bc1 HF.out
  have nHF := bc2 HF.out
  have fHF := bf0 HF.out
  have yHF := blk_lt HF.out
  have kHA := bc0 HA.out
  have mHA := bc1 HA.out
  have nHA := bc2 HA.out
  have fHA := bf0 HA.out
  have yHA := blk_lt HA.out
  have kHV := bc0 HV.out
  have mHV := bc1 HV.out
  have nHV := bc2 HV.out
  have fHV := bf0 HV.out
  have yHV := blk_lt HV.out
  go_wp2_with fail
  clear kHF mHF nHF fHF yHF kHA mHA nHA fHA yHA kHV mHV nHV fHV yHV
  replace HA := Aside0.mk (blk_far (p := ⟨t1_, 1, none⟩) (blk_far (p := ⟨t1_, 0, none⟩) HA.out (show w.heap.size ≠ t1_ by omega) (.int .i64 0)) (show w.heap.size ≠ t1_ by omega) (.int .i64 0))
  replace HV := Aside0.mk (blk_far (p := ⟨t1_, 1, none⟩) (blk_far (p := ⟨t1_, 0, none⟩) HV.out (show w.heap.size + 1 ≠ t1_ by omega) (.int .i64 0)) (show w.heap.size + 1 ≠ t1_ by omega) (.int .i64 0))
  replace HR := Aside0.mk (blk_far (p := ⟨t1_, 1, none⟩) (blk_far (p := ⟨t1_, 0, none⟩) HR.out (show w.heap.size + 1 + 1 ≠ t1_ by omega) (.int .i64 0)) (show w.heap.size + 1 + 1 ≠ t1_ by omega) (.int .i64 0))
  replace HS := Aside0.mk (blk_far (p := ⟨t1_, 1, none⟩) (blk_far (p := ⟨t1_, 0, none⟩) HS.out (show w.heap.size + 1 + 1 + 1 ≠ t1_ by omega) (.int .i64 0)) (show w.heap.size + 1 + 1 + 1 ≠ t1_ by omega) (.int .i64 0))
  replace HF : Aside0 ((((w3).setCell ⟨t1_, 0, none⟩ (.int .i64 0)).setCell ⟨t1_, 1, none⟩ (.int .i64 0)).heap[t1_]? = some (.cells #[(.int .i64 0), (.int .i64 0)] 35 (0, 0))) := Aside0.mk (blk_put (blk_put HF.out 0 (.int .i64 0) rfl) 1 (.int .i64 0) rfl)
  replace HB := Aside0.mk (below_set (j := 1) (v := (.int .i64 0)) (below_set (j := 0) (v := (.int .i64 0)) HB.out (show w.heap.size ≤ t1_ by omega)) (show w.heap.size ≤ t1_ by omega))
  generalize ((w3).setCell ⟨t1_, 0, none⟩ (.int .i64 0)).setCell ⟨t1_, 1, none⟩ (.int .i64 0) = X4 at *
  refine (resync_Changes.calls k a0 a1 a2 aA aa a3 aB ab a4 v0 ch vn true _ (Kd.C_below HA3.out HB.out) ea3 (Kd.C_below HA4.out HB.out) ea4 HC.out).mono ?_
  rintro e w5 ⟨v0_, v1_, rfl, hc0, hc1, hb⟩
  obtain ⟨cA, ca, rfl⟩ := Kd.R_slice hc0
  obtain ⟨nA, na, rfl⟩ := Kd.R_slice hc1
  have HcV := Aside0.mk (Kd.R_V (base' := 0) hc0)
  have HnV := Aside0.mk (Kd.R_V (base' := 0) hc1)
  clear hc0 hc1
  replace HA := Aside0.mk (blk_call HA.out hb)
  replace HV := Aside0.mk (blk_call HV.out hb)
  replace HR := Aside0.mk (blk_call HR.out hb)
  replace HS := Aside0.mk (blk_call HS.out hb)
  replace HF := Aside0.mk (blk_call HF.out hb)
  replace HB := Aside0.mk (below_step HB.out hb)
  clear hb
  go_wp2_with fail
  refine region_till 9 (fun _ => True) (fun w' : World => w'.cell? ⟨w.heap.size + 1, 0, none⟩ = some (.int .i64 v0) ∧ w'.cell? ⟨w.heap.size + 1, 1, none⟩ = some (.slice vA v1.length va) ∧ w'.cell? ⟨w.heap.size, 1, none⟩ = some (.int .i64 a1) ∧ w'.cell? ⟨t1_, 0, none⟩ = some (.int .i64 0) ∧ w'.cell? ⟨t1_, 1, none⟩ = some (.int .i64 0)) (by kernel_rfl) ⟨trivial, ⟨bc0 (blk_drew HV.out) 0, bc0 (blk_drew HV.out) 1, bc0 (blk_drew HA.out) 1, bc0 (blk_drew HF.out) 0, bc0 (blk_drew HF.out) 1⟩⟩ (fun hTU => ?_)
  replace HA := Aside0.mk (blk_drew HA.out)
  replace HV := Aside0.mk (blk_drew HV.out)
  replace HR := Aside0.mk (blk_drew HR.out)
  replace HS := Aside0.mk (blk_drew HS.out)
  replace HF := Aside0.mk (blk_drew HF.out)
  replace HcV := Aside0.mk (Kd.V_drew HcV.out)
  replace HnV := Aside0.mk (Kd.V_drew HnV.out)
  replace HB := Aside0.mk (below_drew1 HB.out)
  generalize w5.drew = X6 at *
  refine till_take (i := 0) (v := ?_) rfl (by kernel_rfl) (by kernel_rfl) (by kernel_rfl) (by kernel_rfl) (fun _ _ _ h => h) (Or.inl ⟨by rfl, ?_⟩) (by assumption) ?_
  rotate_left
  · (intro w_ hS_; (try dsimp only at hS_); go_simp; try with_reducible rfl)
  try simp only [Act.put, List.setIfInBounds_toArray, List.set_cons_zero, List.set_cons_succ]
  refine till_take (i := 1) (v := ?_) rfl (by kernel_rfl) (by kernel_rfl) (by kernel_rfl) (by kernel_rfl) (fun _ _ _ h => h) (Or.inl ⟨by rfl, ?_⟩) (by assumption) ?_
  rotate_left
  · (intro w_ hS_; (try dsimp only at hS_); go_simp; try with_reducible rfl)
  try simp only [Act.put, List.setIfInBounds_toArray, List.set_cons_zero, List.set_cons_succ]
  refine till_take (i := 2) (v := ?_) rfl (by kernel_rfl) (by kernel_rfl) (by kernel_rfl) (by kernel_rfl) (fun _ _ _ h => h) (Or.inl ⟨by rfl, ?_⟩) (by assumption) ?_
  rotate_left
  · (intro w_ hS_; (try dsimp only at hS_); go_simp; try with_reducible rfl)
  try simp only [Act.put, List.setIfInBounds_toArray, List.set_cons_zero, List.set_cons_succ]
  refine till_take (i := 3) (v := ?_) rfl (by kernel_rfl) (by kernel_rfl) (by kernel_rfl) (by kernel_rfl) (fun _ _ _ h => h) (Or.inl ⟨by rfl, ?_⟩) (by assumption) ?_
  rotate_left
  · (intro w_ hS_; (try dsimp only at hS_); go_simp; try with_reducible rfl)
  try simp only [Act.put, List.setIfInBounds_toArray, List.set_cons_zero, List.set_cons_succ]
  refine till_take (i := 4) (v := ?_) rfl (by kernel_rfl) (by kernel_rfl) (by kernel_rfl) (by kernel_rfl) (fun _ _ _ h => h) (Or.inl ⟨by rfl, ?_⟩) (by assumption) ?_
  rotate_left
  · (intro w_ hS_; (try dsimp only at hS_); go_simp; try with_reducible rfl)
  try simp only [Act.put, List.setIfInBounds_toArray, List.set_cons_zero, List.set_cons_succ]
  refine till_take (i := 6) (v := ?_) rfl (by kernel_rfl) (by kernel_rfl) (by kernel_rfl) (by kernel_rfl) (fun _ _ _ h => h) (Or.inl ⟨by rfl, ?_⟩) (by assumption) ?_
  rotate_left
  · (intro w_ hS_; (try dsimp only at hS_); go_simp; try with_reducible rfl)
  try simp only [Act.put, List.setIfInBounds_toArray, List.set_cons_zero, List.set_cons_succ]
  refine till_one (i := 5) (by kernel_rfl) rfl (fun K hK => ?_)
  go_simp
  go_at_call 30
  refine (views_With.calls v0 vA va v1 cA ca ch nA na vn a1 r1 r2 _ (Kd.C_below HV1.out HB.out) ev1 (Kd.F_now (Kd.V_F HcV.out)) (Kd.V_at HcV.out).2.1 (Kd.F_now (Kd.V_F HnV.out)) (Kd.V_at HnV.out).2.1 HW.out).mono ?_
  rintro e w7 ⟨v1_, rfl, hr, hb⟩
  obtain ⟨rA, ra, rfl⟩ := Kd.R_slice hr
  have hsz := below_size HB.out
  have yS := blk_lt HS.out
  have HN := Aside0.mk (Kd.N_lower (seen_ok (ok' := fun k_ => X6.heap.size ≤ k_) (Kd.R_N hr) (Kd.N_base (Kd.R_N hr))) hsz)
  clear hr
  replace HA := Aside0.mk (blk_call HA.out hb)
  replace HV := Aside0.mk (blk_call HV.out hb)
  replace HR := Aside0.mk (blk_call HR.out hb)
  replace HS := Aside0.mk (blk_call HS.out hb)
  replace HF := Aside0.mk (blk_call HF.out hb)
  replace HB := Aside0.mk (below_step HB.out hb)
  clear hb
  refine hK.out _ _ trivial (fun _ _ => ⟨bc0 HV.out 0, bc0 HV.out 1, bc0 HA.out 1, bc0 HF.out 0, bc0 HF.out 1⟩) (fun hTV => ?_)
  clear hK K hTU
  have hTU := hTV (by kernel_rfl) (by decide)
  clear hTV
  try simp only [Act.put, List.setIfInBounds_toArray, List.set_cons_zero, List.set_cons_succ]
  refine till_one (i := 7) (by kernel_rfl) rfl (fun K hK => ?_)
  have kHR := bc0 HR.out
  have fHR := bf0 HR.out
  have yHR := blk_lt HR.out
  go_simp
  clear kHR fHR yHR
  replace HN := Aside0.mk (Kd.N_far (p := ⟨w.heap.size + 1 + 1, 1, none⟩) (Kd.N_far (p := ⟨w.heap.size + 1 + 1, 0, none⟩) HN.out (fun k_ hk_ => by show k_ ≠ w.heap.size + 1 + 1; omega) (.int .i64 r1)) (fun k_ hk_ => by show k_ ≠ w.heap.size + 1 + 1; omega) (.slice rA r2.length ra))
  replace HA := Aside0.mk (blk_far (p := ⟨w.heap.size + 1 + 1, 1, none⟩) (blk_far (p := ⟨w.heap.size + 1 + 1, 0, none⟩) HA.out (show w.heap.size ≠ w.heap.size + 1 + 1 by omega) (.int .i64 r1)) (show w.heap.size ≠ w.heap.size + 1 + 1 by omega) (.slice rA r2.length ra))
  replace HV := Aside0.mk (blk_far (p := ⟨w.heap.size + 1 + 1, 1, none⟩) (blk_far (p := ⟨w.heap.size + 1 + 1, 0, none⟩) HV.out (show w.heap.size + 1 ≠ w.heap.size + 1 + 1 by omega) (.int .i64 r1)) (show w.heap.size + 1 ≠ w.heap.size + 1 + 1 by omega) (.slice rA r2.length ra))
  replace HR : Aside0 ((((w7).setCell ⟨w.heap.size + 1 + 1, 0, none⟩ (.int .i64 r1)).setCell ⟨w.heap.size + 1 + 1, 1, none⟩ (.slice rA r2.length ra)).heap[w.heap.size + 1 + 1]? = some (.cells #[(.int .i64 r1), (.slice rA r2.length ra)] 33 (0, 0))) := Aside0.mk (blk_put (blk_put HR.out 0 (.int .i64 r1) rfl) 1 (.slice rA r2.length ra) rfl)
  replace HS := Aside0.mk (blk_far (p := ⟨w.heap.size + 1 + 1, 1, none⟩) (blk_far (p := ⟨w.heap.size + 1 + 1, 0, none⟩) HS.out (show w.heap.size + 1 + 1 + 1 ≠ w.heap.size + 1 + 1 by omega) (.int .i64 r1)) (show w.heap.size + 1 + 1 + 1 ≠ w.heap.size + 1 + 1 by omega) (.slice rA r2.length ra))
  replace HF := Aside0.mk (blk_far (p := ⟨w.heap.size + 1 + 1, 1, none⟩) (blk_far (p := ⟨w.heap.size + 1 + 1, 0, none⟩) HF.out (show t1_ ≠ w.heap.size + 1 + 1 by omega) (.int .i64 r1)) (show t1_ ≠ w.heap.size + 1 + 1 by omega) (.slice rA r2.length ra))
  replace HB := Aside0.mk (below_set (j := 1) (v := (.slice rA r2.length ra)) (below_set (j := 0) (v := (.int .i64 r1)) HB.out (show w.heap.size ≤ w.heap.size + 1 + 1 by omega)) (show w.heap.size ≤ w.heap.size + 1 + 1 by omega))
  generalize ((w7).setCell ⟨w.heap.size + 1 + 1, 0, none⟩ (.int .i64 r1)).setCell ⟨w.heap.size + 1 + 1, 1, none⟩ (.slice rA r2.length ra) = X8 at *
  refine hK.out _ _ trivial (fun _ _ => ⟨bc0 HV.out 0, bc0 HV.out 1, bc0 HA.out 1, bc0 HF.out 0, bc0 HF.out 1⟩) (fun hTV => ?_)
  clear hK K hTU
  have hTU := hTV (by kernel_rfl) (by decide)
  clear hTV
  try simp only [Act.put, List.setIfInBounds_toArray, List.set_cons_zero, List.set_cons_succ]
  refine till_take (i := 8) (v := ?_) rfl (by kernel_rfl) (by kernel_rfl) (by kernel_rfl) (by kernel_rfl) (fun _ _ _ h => h) (Or.inl ⟨by rfl, ?_⟩) (by assumption) ?_
  rotate_left
  · (intro w_ hS_; (try dsimp only at hS_); go_simp; try with_reducible rfl)
  try simp only [Act.put, List.setIfInBounds_toArray, List.set_cons_zero, List.set_cons_succ]
  refine till_one (i := 9) (by kernel_rfl) rfl (fun K hK => ?_)
  have kHS := bc0 HS.out
  have fHS := bf0 HS.out
  have yHS := blk_lt HS.out
  go_simp
  clear kHS fHS yHS
  replace HN := Aside0.mk (Kd.N_far (p := ⟨w.heap.size + 1 + 1 + 1, 1, none⟩) (Kd.N_far (p := ⟨w.heap.size + 1 + 1 + 1, 0, none⟩) HN.out (fun k_ hk_ => by show k_ ≠ w.heap.size + 1 + 1 + 1; omega) (.int .i64 0)) (fun k_ hk_ => by show k_ ≠ w.heap.size + 1 + 1 + 1; omega) (.int .i64 0))
  replace HA := Aside0.mk (blk_far (p := ⟨w.heap.size + 1 + 1 + 1, 1, none⟩) (blk_far (p := ⟨w.heap.size + 1 + 1 + 1, 0, none⟩) HA.out (show w.heap.size ≠ w.heap.size + 1 + 1 + 1 by omega) (.int .i64 0)) (show w.heap.size ≠ w.heap.size + 1 + 1 + 1 by omega) (.int .i64 0))
  replace HV := Aside0.mk (blk_far (p := ⟨w.heap.size + 1 + 1 + 1, 1, none⟩) (blk_far (p := ⟨w.heap.size + 1 + 1 + 1, 0, none⟩) HV.out (show w.heap.size + 1 ≠ w.heap.size + 1 + 1 + 1 by omega) (.int .i64 0)) (show w.heap.size + 1 ≠ w.heap.size + 1 + 1 + 1 by omega) (.int .i64 0))
  replace HR := Aside0.mk (blk_far (p := ⟨w.heap.size + 1 + 1 + 1, 1, none⟩) (blk_far (p := ⟨w.heap.size + 1 + 1 + 1, 0, none⟩) HR.out (show w.heap.size + 1 + 1 ≠ w.heap.size + 1 + 1 + 1 by omega) (.int .i64 0)) (show w.heap.size + 1 + 1 ≠ w.heap.size + 1 + 1 + 1 by omega) (.int .i64 0))
  replace HS : Aside0 ((((X8).setCell ⟨w.heap.size + 1 + 1 + 1, 0, none⟩ (.int .i64 0)).setCell ⟨w.heap.size + 1 + 1 + 1, 1, none⟩ (.int .i64 0)).heap[w.heap.size + 1 + 1 + 1]? = some (.cells #[(.int .i64 0), (.int .i64 0)] 35 (0, 0))) := Aside0.mk (blk_put (blk_put HS.out 0 (.int .i64 0) rfl) 1 (.int .i64 0) rfl)
  replace HF := Aside0.mk (blk_far (p := ⟨w.heap.size + 1 + 1 + 1, 1, none⟩) (blk_far (p := ⟨w.heap.size + 1 + 1 + 1, 0, none⟩) HF.out (show t1_ ≠ w.heap.size + 1 + 1 + 1 by omega) (.int .i64 0)) (show t1_ ≠ w.heap.size + 1 + 1 + 1 by omega) (.int .i64 0))
  replace HB := Aside0.mk (below_set (j := 1) (v := (.int .i64 0)) (below_set (j := 0) (v := (.int .i64 0)) HB.out (show w.heap.size ≤ w.heap.size + 1 + 1 + 1 by omega)) (show w.heap.size ≤ w.heap.size + 1 + 1 + 1 by omega))
  generalize ((X8).setCell ⟨w.heap.size + 1 + 1 + 1, 0, none⟩ (.int .i64 0)).setCell ⟨w.heap.size + 1 + 1 + 1, 1, none⟩ (.int .i64 0) = X9 at *
  refine hK.out _ _ trivial (fun _ h => absurd rfl h) (fun _ => ?_)
  clear hK K hTU
  refine till_done (by kernel_rfl) ?_ _
  go_wp2
  have kHR := bc0 HR.out
  have kHS := bc0 HS.out
  exact bodyPost_ret (v := .tuple #[.agg #[.int .i64 r1, (.slice rA r2.length ra)], .bool false, .agg #[.int .i64 0, .int .i64 0]]) (by simp [results, Tryd.results14, go_sem, kHR, kHS]) rfl ⟨_, rfl, seen_R HN.out, HB.out⟩


end Go.Proofs.YtjmnaipoccpbmaaDoor.P
end
/- Functions of this seat as Lean functions, and that the Go code comes to their answers: written by a program of this session's. -/
section
namespace Go.Proofs.YtjmnaipoccpbmaaDoor.P
open Go.RowKit Go.Proofs.YtjmnaipoccpbmaaDoorW.PrintWords Go.Proofs.YtjmnaipoccpbmaaDoorW.PrintLast Go.Proofs.YtjmnaipoccpbmaaDoorW.PrintMore
attribute [local go_sem] max2_int min2_int max_two min_two max_three min_three max_four min_four   -- for this text's walks alone
set_option linter.unusedVariables false
set_option linter.unusedSimpArgs false

/-! ### posthouselaw8_letter: function 31 -/
def posthouselaw8_letter.f (a0 : ByteArray) : Option ((List (S99)) × List Int) := some ([⟨⟨#[83, 117, 98, 106, 101, 99, 116]⟩, a0⟩], [120, 13, 10])
set_option maxRecDepth 100000 in
theorem posthouselaw8_letter.calls (a0 : ByteArray) (r1 : List (S99)) (r2 : List Int) (w : World) (h : posthouselaw8_letter.f a0 = some (r1, r2)) :
    Calls Tryd.prog 31 #[.string a0] w fun e w' => ∃ v0_ v1_ : Value, e = .returned (.agg #[v0_, v1_]) ∧ Kd.V k99 99 w' w.heap.size (fun k_ => (w.heap.size ≤ k_)) v0_ r1 ∧ Kd.V (Kd.int .u8) 5 w' w.heap.size (fun k_ => (w.heap.size ≤ k_)) v1_ r2 ∧ Below w.heap.size w w' := by
  obtain ⟨rfl, rfl⟩ : [⟨⟨#[83, 117, 98, 106, 101, 99, 116]⟩, a0⟩] = r1 ∧ [120, 13, 10] = r2 := by simpa [posthouselaw8_letter.f] using h
  have hu := Tryd.underlying29
  have hu2 := Tryd.underlying99
  have kc : ∀ (W : World) (o1 o2 : Obj) (C : Array Value) (n c : Nat), Sem.run Tryd.prog (convert 27 27 (.slice (some ⟨W.heap.size + 1 + 1, 0, none⟩) n c)) (((W.alloc o1).alloc o2).alloc (.cells C 5)) = .ok (.slice (some ⟨W.heap.size + 1 + 1, 0, none⟩) n c) (((W.alloc o1).alloc o2).alloc (.cells C 5 (C.size, C.size + 1))) := fun W o1 o2 C n c => by
    have := Lib.run_convert_bytes_const (P := Tryd.prog) ((W.alloc o1).alloc o2) 27 5 C n c Tryd.underlying27 Tryd.underlying5
    simpa using this
  go_enter Tryd.func31, Tryd.ntmps31
  go_wp2
  refine bodyPost_ret (v := .agg #[.slice (some ⟨w.heap.size + 1, 0, none⟩) 1 1, .slice (some ⟨w.heap.size + 1 + 1, 0, none⟩) 3 3]) (by simp [results, Tryd.results31, go_sem]) rfl ⟨_, _, rfl, ?_, ?_, ?_⟩
  · exact V_one (blk_later (blk_at1 _ _) _) rfl (by omega) rfl (k99_mkF _ _ _) (Nat.le_refl _)
  · exact V_nums (xs := [120, 13, 10]) (blk_at2 _ _ _) (by omega) (fun j hj => by match j, hj with | 0, _ => rfl | 1, _ => rfl | 2, _ => rfl) (Nat.le_refl _) (by simp)
  · exact below_alloc (below_alloc (below_alloc (Below.refl _ _) _) _) _


end Go.Proofs.YtjmnaipoccpbmaaDoor.P
end
/- Functions of this seat as Lean functions, and that the Go code comes to their answers: written by a program of this session's. -/
section
namespace Go.Proofs.YtjmnaipoccpbmaaDoor.P
open Go.RowKit Go.Proofs.YtjmnaipoccpbmaaDoorW.PrintWords Go.Proofs.YtjmnaipoccpbmaaDoorW.PrintLast Go.Proofs.YtjmnaipoccpbmaaDoorW.PrintMore
attribute [local go_sem] max2_int min2_int max_two min_two max_three min_three max_four min_four   -- for this text's walks alone
set_option linter.unusedVariables false
set_option linter.unusedSimpArgs false

/-! ### posthouselaw8_three: function 15 -/
def posthouselaw8_three.f : Option (Int × Int × Int × (List (S78)) × (List (S73))) := (posthouselaw8_letter.f (⟨#[98]⟩ : ByteArray)).bind fun b => some (3, 5, 0, [⟨2, 3, 1, 9, ⟨b.1, b.2⟩⟩], [⟨1, 4⟩])
set_option maxRecDepth 100000 in
theorem posthouselaw8_three.calls (r1 : Int) (r2 : Int) (r3 : Int) (r4 : List (S78)) (r5 : List (S73)) (w : World) (h : posthouselaw8_three.f = some (r1, r2, r3, r4, r5)) :
    Calls Tryd.prog 15 #[] w fun e w' => ∃ v3_ v4_ : Value, e = .returned (.agg #[.int .i64 r1, .int .i64 r2, .int .i64 r3, v3_, v4_]) ∧ Kd.V k78 78 w' w.heap.size (fun k_ => (w.heap.size ≤ k_)) v3_ r4 ∧ Kd.V k73 73 w' w.heap.size (fun k_ => (w.heap.size ≤ k_)) v4_ r5 ∧ Below w.heap.size w w' := by
  obtain ⟨⟨t1, t2⟩, ht, h⟩ := Option.bind_eq_some_iff.1 h
  simp only [Option.some.injEq, Prod.mk.injEq] at h
  obtain ⟨rfl, rfl, rfl, rfl, rfl⟩ := h
  have hu := Tryd.underlying25
  have hu2 := Tryd.underlying78
  have hu3 := Tryd.underlying73
  go_enter Tryd.func15, Tryd.ntmps15
  go_wp2_with fail
  refine (posthouselaw8_letter.calls _ t1 t2 _ ht).mono ?_
  rintro e w1 ⟨_, _, rfl, ⟨A0, c0, rfl, l0, f0⟩, ⟨A1, c1, rfl, l1, f1⟩, hb⟩
  have hB := blk_call (blk_at _) hb
  have hz := hb.size
  simp only [World.size_alloc] at hz f0 f1
  have kc := bc2 hB
  have kf := bf2 hB
  replace hB := Aside0.mk hB
  replace f0 := Aside0.mk f0
  replace f1 := Aside0.mk f1
  replace hb := Aside0.mk hb
  go_wp2
  have hlt : w.heap.size ≠ w1.heap.size := by omega
  have hlt2 : w.heap.size ≠ w1.heap.size + 1 := by omega
  refine bodyPost_ret (v := .agg #[.int .i64 3, .int .i64 5, .int .i64 0, .slice (some ⟨w1.heap.size, 0, none⟩) 1 1, .slice (some ⟨w1.heap.size + 1, 0, none⟩) 1 1]) (by simp [results, Tryd.results15, go_sem, kc]) rfl ⟨_, _, rfl, ?_, ?_, ?_⟩
  · have hk : ∀ k, w.heap.size + 1 ≤ k → k ≠ w.heap.size := fun k hk => by omega
    exact V_one (blk_far (blk_far (blk_far (blk_far (blk_far (blk_later (blk_at _) _) hlt.symm _) hlt.symm _) hlt.symm _) hlt.symm _) hlt.symm _) rfl (by omega) rfl (k78_mkF _ _ (⟨2, 3, 1, 9, ⟨t1, t2⟩⟩ : S78) l0 (Kd.F_mono (Kd.F_far (Kd.F_far (Kd.F_far (Kd.F_far (Kd.F_far (Kd.F_alloc (Kd.F_alloc f0.out _) _) hk _) hk _) hk _) hk _) hk _) (fun k hk => by omega)) l1 (Kd.F_mono (Kd.F_far (Kd.F_far (Kd.F_far (Kd.F_far (Kd.F_far (Kd.F_alloc (Kd.F_alloc f1.out _) _) hk _) hk _) hk _) hk _) hk _) (fun k hk => by omega))) (Nat.le_refl _)
  · exact V_one (blk_far (blk_far (blk_far (blk_far (blk_far (blk_at1 _ _) hlt2.symm _) hlt2.symm _) hlt2.symm _) hlt2.symm _) hlt2.symm _) rfl (by omega) rfl (k73_mkF _ _ _) (Nat.le_refl _)
  · have := below_then (below_alloc (Below.refl _ w) _) (by simp) hb.out
    exact (below_set (below_set (below_set (below_set (below_set (below_alloc (below_alloc this _) _) (Nat.le_refl _)) (Nat.le_refl _)) (Nat.le_refl _)) (Nat.le_refl _)) (Nat.le_refl _))


end Go.Proofs.YtjmnaipoccpbmaaDoor.P
end
/- Functions of this seat as Lean functions, and that the Go code comes to their answers: written by a program of this session's. -/
section
namespace Go.Proofs.YtjmnaipoccpbmaaDoor.P
open Go.RowKit Go.Proofs.YtjmnaipoccpbmaaDoorW.PrintWords Go.Proofs.YtjmnaipoccpbmaaDoorW.PrintLast Go.Proofs.YtjmnaipoccpbmaaDoorW.PrintMore
attribute [local go_sem] max2_int min2_int max_two min_two max_three min_three max_four min_four   -- for this text's walks alone
set_option linter.unusedVariables false
set_option linter.unusedSimpArgs false

/-! ### posthouseref7_Ints: function 26 -/
def posthouseref7_Ints.l0 : Nat → List Int → List Int → Int → Option (Bool)
  | 0, _, _, _ => none
  | k + 1, x0, x1, x5 => if x5 < (x0.length : Int) then (if 0 ≤ x5 then (if x5 < (x1.length : Int) then (if (rd x0 x5) = (rd x1 x5) then (posthouseref7_Ints.l0 k x0 x1 (wrap64 (x5 + 1))) else (some false)) else (none)) else (none)) else (some true)
def posthouseref7_Ints.f (k : Nat) (l0 : List Int) (l1 : List Int) : Option (Bool) := if (l0.length : Int) = (l1.length : Int) then (posthouseref7_Ints.l0 k l0 l1 0) else (some false)
theorem posthouseref7_Ints.mono_l : ∀ k, (∀ y0 y1 y2, LeO (posthouseref7_Ints.l0 k y0 y1 y2) (posthouseref7_Ints.l0 (k + 1) y0 y1 y2))
  | 0 => fun _ _ _ r h => by simp [posthouseref7_Ints.l0] at h
  | k + 1 => by
    have ih0 := posthouseref7_Ints.mono_l k
    · intro y0 y1 y2
      unfold posthouseref7_Ints.l0
      repeat' first
      | (with_reducible exact ih0 _ _ _)
      | (with_reducible exact LeO.refl _)
      | (with_reducible exact LeO.none _)
      | (with_reducible refine LeO.ite ?_ ?_)
      | (with_reducible refine LeO.bind ?_ (fun _ => ?_))
      | exact ih0 _ _ _
      | exact LeO.none _
      | refine LeO.ite ?_ ?_
      | refine LeO.bind ?_ (fun _ => ?_)
theorem posthouseref7_Ints.mono : ∀ a0 a1 k, LeO (posthouseref7_Ints.f k a0 a1) (posthouseref7_Ints.f (k + 1) a0 a1) := by
  intro a0 a1 k
  have ih0 := posthouseref7_Ints.mono_l k
  unfold posthouseref7_Ints.f
  repeat' first
      | (with_reducible exact ih0 _ _ _)
      | (with_reducible exact LeO.refl _)
      | (with_reducible exact LeO.none _)
      | (with_reducible refine LeO.ite ?_ ?_)
      | (with_reducible refine LeO.bind ?_ (fun _ => ?_))
      | exact ih0 _ _ _
      | exact LeO.none _
      | refine LeO.ite ?_ ?_
      | refine LeO.bind ?_ (fun _ => ?_)
set_option maxHeartbeats 8000000 in
set_option maxRecDepth 100000 in
theorem posthouseref7_Ints.calls (k : Nat) (A0 : Option Addr) (c0 : Nat) (l0 : List Int) (A1 : Option Addr) (c1 : Nat) (l1 : List Int) (r : Bool) (w : World) (hr0 : Kd.C (Kd.int .i64) w A0 l0.length l0) (hc0 : l0.length ≤ c0) (hr1 : Kd.C (Kd.int .i64) w A1 l1.length l1) (hc1 : l1.length ≤ c1) (h : posthouseref7_Ints.f k l0 l1 = some r) :
    Calls Tryd.prog 26 #[.slice A0 l0.length c0, .slice A1 l1.length c1] w fun e w' => e = .returned (.bool r) ∧ Drawn0 w w' := by
  have HR0 := Aside0.mk hr0
  have HC0 := Aside0.mk hc0
  clear hr0 hc0
  have HR1 := Aside0.mk hr1
  have HC1 := Aside0.mk hc1
  clear hr1 hc1
  have H : (if (l0.length : Int) = (l1.length : Int) then (posthouseref7_Ints.l0 k l0 l1 0) else (some false)) = some r := h
  clear h
  by_cases c3 : (l0.length : Int) = (l1.length : Int)
  · rw [if_pos c3] at H
    have c3b0 : ((l0.length : Int) == (l1.length : Int)) = true := beq_iff_eq.mpr c3
    have c3b1 : ((l0.length : Int) != (l1.length : Int)) = false := bne_eq_false_iff_eq.mpr c3
    have c3b2 : (l0.length == l1.length) = true := by first | simpa using c3 | (simp at c3 ⊢; omega)
    clear c3
    have H' := Aside0.mk H
    clear H
    go_enter Tryd.func26, Tryd.ntmps26
    go_wp2
    repeat (go_quiet (fail); try go_wp2)
    go_loopg [5] k (fun kq v5 w' => ∃ (x5_1 : Int), v5 = .int .i64 x5_1 ∧ Aside0 (posthouseref7_Ints.l0 kq l0 l1 x5_1 = some r) ∧ Aside0 (kq ≤ k) ∧ Drawn0 w w')
    case atStart => exact ⟨(0), (by first | rfl | (simp; done) | (simp [*]; done)), H', ⟨Nat.le_refl _⟩, by repeat (first | exact Drawn0.refl _ | apply Drawn0.step)⟩
    case round =>
      clear H'
      try clear c1
      try clear c2
      try clear p2
      try clear c3
      try clear c3b0
      try clear c3b1
      try clear c3b2
      obtain ⟨x5_1, rfl, HA, HK1, ⟨m1, rfl⟩⟩ := hrel
      cases gk with
      | zero => exact absurd HA.out (by simp [posthouseref7_Ints.l0])
      | succ k1 =>
        have H := HA.out
        clear HA
        simp only [posthouseref7_Ints.l0] at H
        by_cases c4 : x5_1 < (l0.length : Int)
        · rw [if_pos c4] at H
          have c4b0 : decide (x5_1 < (l0.length : Int)) = true := decide_eq_true c4
          clear c4
          by_cases c5 : 0 ≤ x5_1
          · rw [if_pos c5] at H
            have c5b0 : decide (0 ≤ x5_1) = true := decide_eq_true c5
            clear c5
            by_cases c6 : x5_1 < (l1.length : Int)
            · rw [if_pos c6] at H
              have c6b0 : decide (x5_1 < (l1.length : Int)) = true := decide_eq_true c6
              clear c6
              by_cases c7 : (rd l0 x5_1) = (rd l1 x5_1)
              · rw [if_pos c7] at H
                have c7b0 : ((rd l0 x5_1) == (rd l1 x5_1)) = true := beq_iff_eq.mpr c7
                have c7b1 : ((rd l0 x5_1) != (rd l1 x5_1)) = false := bne_eq_false_iff_eq.mpr c7
                clear c7
                have H' := Aside0.mk H
                clear H
                have p186 : 0 ≤ (x5_1 : Int) := of_decide_eq_true (by first | (with_reducible assumption) | assumption)
                have q186 : x5_1 < (l0.length : Int) := of_decide_eq_true (by first | (with_reducible assumption) | assumption)
                obtain ⟨ad186, e186, hx186_0⟩ := Kd.at_int HR0.out x5_1 p186 q186
                cases e186
                replace p186 := eq_true p186
                replace q186 := eq_true q186
                have p187 : 0 ≤ (x5_1 : Int) := of_decide_eq_true (by first | (with_reducible assumption) | assumption)
                have q187 : x5_1 < (l1.length : Int) := of_decide_eq_true (by first | (with_reducible assumption) | assumption)
                obtain ⟨ad187, e187, hx187_0⟩ := Kd.at_int HR1.out x5_1 p187 q187
                cases e187
                replace p187 := eq_true p187
                replace q187 := eq_true q187
                go_wp2
                repeat (go_quiet (fail); try go_wp2)
                go_roundg k1
                case measure => have := HK1.out; omega
                case rel => exact ⟨(wrap64 (x5_1 + 1)), (by first | rfl | (simp; done) | (simp [*]; done)), H', ⟨by have := HK1.out; omega⟩, by repeat (first | exact Drawn0.refl _ | apply Drawn0.step)⟩
              · rw [if_neg c7] at H
                have c7b0 : ((rd l0 x5_1) == (rd l1 x5_1)) = false := beq_eq_false_iff_ne.mpr c7
                have c7b1 : ((rd l0 x5_1) != (rd l1 x5_1)) = true := bne_iff_ne.mpr c7
                obtain rfl := Option.some.inj H
                have p186 : 0 ≤ (x5_1 : Int) := of_decide_eq_true (by first | (with_reducible assumption) | assumption)
                have q186 : x5_1 < (l0.length : Int) := of_decide_eq_true (by first | (with_reducible assumption) | assumption)
                obtain ⟨ad186, e186, hx186_0⟩ := Kd.at_int HR0.out x5_1 p186 q186
                cases e186
                replace p186 := eq_true p186
                replace q186 := eq_true q186
                have p187 : 0 ≤ (x5_1 : Int) := of_decide_eq_true (by first | (with_reducible assumption) | assumption)
                have q187 : x5_1 < (l1.length : Int) := of_decide_eq_true (by first | (with_reducible assumption) | assumption)
                obtain ⟨ad187, e187, hx187_0⟩ := Kd.at_int HR1.out x5_1 p187 q187
                cases e187
                replace p187 := eq_true p187
                replace q187 := eq_true q187
                go_wp2
                repeat (go_quiet (fail); try go_wp2)
                go_ret
                exact ⟨by first | rfl | (simp; done) | (simp [*]; done), by repeat (first | exact Drawn0.refl _ | apply Drawn0.step)⟩
            · rw [if_neg c6] at H
              exact absurd H (by simp)
          · rw [if_neg c5] at H
            exact absurd H (by simp)
        · rw [if_neg c4] at H
          have c4b0 : decide (x5_1 < (l0.length : Int)) = false := decide_eq_false c4
          clear c4
          obtain rfl := Option.some.inj H
          go_wp2
          repeat (go_quiet (fail); try go_wp2)
          go_ret
          exact ⟨by first | rfl | (simp; done) | (simp [*]; done), by repeat (first | exact Drawn0.refl _ | apply Drawn0.step)⟩
  · rw [if_neg c3] at H
    have c3b0 : ((l0.length : Int) == (l1.length : Int)) = false := beq_eq_false_iff_ne.mpr c3
    have c3b1 : ((l0.length : Int) != (l1.length : Int)) = true := bne_iff_ne.mpr c3
    have c3b2 : (l0.length == l1.length) = false := by first | simpa using c3 | (simp at c3 ⊢; omega)
    obtain rfl := Option.some.inj H
    go_enter Tryd.func26, Tryd.ntmps26
    go_wp2
    repeat (go_quiet (fail); try go_wp2)
    go_ret
    exact ⟨by first | rfl | (simp; done) | (simp [*]; done), by repeat (first | exact Drawn0.refl _ | apply Drawn0.step)⟩

end Go.Proofs.YtjmnaipoccpbmaaDoor.P
end
