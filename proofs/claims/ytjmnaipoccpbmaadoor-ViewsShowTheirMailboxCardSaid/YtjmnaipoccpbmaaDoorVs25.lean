/- Functions of this seat as Lean functions, and that the Go code comes to their answers: written by a program of this session's. -/
import Derived.Test.YtjmnaipoccpbmaaDoorVs10
import Derived.Test.YtjmnaipoccpbmaaDoorVs18
import Derived.Test.YtjmnaipoccpbmaaDoorVs20
import Derived.Test.YtjmnaipoccpbmaaDoorVs21
import Derived.Test.YtjmnaipoccpbmaaDoorVs22
import Derived.Test.YtjmnaipoccpbmaaDoorVs24
namespace Go.Proofs.YtjmnaipoccpbmaaDoor.P
open Go.RowKit Go.Proofs.YtjmnaipoccpbmaaDoorW.PrintWords Go.Proofs.YtjmnaipoccpbmaaDoorW.PrintLast Go.Proofs.YtjmnaipoccpbmaaDoorW.PrintMore
attribute [local go_sem] max2_int min2_int max_two min_two max_three min_three max_four min_four   -- for this text's walks alone
set_option linter.unusedVariables false
set_option linter.unusedSimpArgs false

/-! ### mailbox_Apply: function 10 -/
/-- Sizes that a copy takes. -/
def sized (l3 : List (S78)) (l4 : List (S73)) (l5 : List (S99)) (l6 : List Int) : Prop := l3.length ≤ 1000000 ∧ l4.length ≤ 1000000 ∧ l5.length ≤ 1000000 ∧ l6.length ≤ 1000000 ∧ ∀ e ∈ l3, e.f4.f0.length ≤ 1000000 ∧ e.f4.f1.length ≤ 1000000
instance sized_dec (l3 : List (S78)) (l4 : List (S73)) (l5 : List (S99)) (l6 : List Int) : Decidable (sized l3 l4 l5 l6) := by unfold sized; infer_instance
def mailbox_Apply.f (k : Nat) (a0 a1 a2 : Int) (l3 : List (S78)) (l4 : List (S73)) (c0 c1 c2 c3 c4 : Int) (l5 : List (S99)) (l6 : List Int) : Option (Int × Int × Int × (List (S78)) × (List (S73)) × Int × Int) :=
  (mailbox_Validate.f k a0 a1 a2 l3 l4).bind fun b1 => if b1.1 = 0 ∧ b1.2 = 0 then
    ((mailbox_change.f k c0 c1 c2 c3 c4 l5 l6).bind fun b2 => if b2.1 = 0 ∧ b2.2 = 0 then
      ((mailbox_possible.f a0 a1 a2 l3 l4 c0 c1 c2 c3 c4 l5 l6).bind fun b3 => if b3.1 = 0 ∧ b3.2 = 0 then
        (if sized l3 l4 l5 l6 then some ((mailbox_Do.m a0 a1 a2 l3 l4 c0 c1 c2 c3 c4 l5 l6).1, (mailbox_Do.m a0 a1 a2 l3 l4 c0 c1 c2 c3 c4 l5 l6).2.1, (mailbox_Do.m a0 a1 a2 l3 l4 c0 c1 c2 c3 c4 l5 l6).2.2.1, (mailbox_Do.m a0 a1 a2 l3 l4 c0 c1 c2 c3 c4 l5 l6).2.2.2.1, (mailbox_Do.m a0 a1 a2 l3 l4 c0 c1 c2 c3 c4 l5 l6).2.2.2.2, 0, 0) else none)
        else some (0, 0, 0, [], [], b3.1, b3.2))
      else some (0, 0, 0, [], [], b2.1, b2.2))
    else some (0, 0, 0, [], [], b1.1, b1.2)
theorem mailbox_Apply.mono : ∀ a0 a1 a2 l3 l4 c0 c1 c2 c3 c4 l5 l6 k, LeO (mailbox_Apply.f k a0 a1 a2 l3 l4 c0 c1 c2 c3 c4 l5 l6) (mailbox_Apply.f (k + 1) a0 a1 a2 l3 l4 c0 c1 c2 c3 c4 l5 l6) := by
  intro a0 a1 a2 l3 l4 c0 c1 c2 c3 c4 l5 l6 k
  unfold mailbox_Apply.f
  refine LeO.bind (mailbox_Validate.mono _ _ _ _ _ _) (fun b1 => ?_)
  refine LeO.ite ?_ (LeO.refl _)
  refine LeO.bind (mailbox_change.mono _ _ _ _ _ _ _ _) (fun b2 => ?_)
  exact LeO.refl _
theorem blk_at3 {w : World} (o1 o2 o3 o4 : Obj) : ((((w.alloc o1).alloc o2).alloc o3).alloc o4).heap[w.heap.size + 1 + 1 + 1]? = some o4 := by simpa using blk_new (((w.alloc o1).alloc o2).alloc o3) o4
theorem change_kinds {k : Nat} {c0 c1 c2 c3 c4 : Int} {l5 : List (S99)} {l6 : List Int} {r : Int × Int} (h : mailbox_change.f k c0 c1 c2 c3 c4 l5 l6 = some r) (hr : r.1 = 0) : inB c0 1 3 = true := by
  unfold mailbox_change.f at h
  cases hb : inB c0 1 3
  · rw [if_pos hb] at h
    cases h
    cases hr
  · rfl
theorem possible_place (a0 a1 a2 : Int) (l3 : List (S78)) (l4 : List (S73)) (c0 c1 c2 c3 c4 : Int) (l5 : List (S99)) (l6 : List Int) (r : Int × Int) (h : mailbox_possible.f a0 a1 a2 l3 l4 c0 c1 c2 c3 c4 l5 l6 = some r) (hr : r.1 = 0) : c0 = 1 ∨ 0 ≤ placeFrom l3 c1 0 := by
  unfold mailbox_possible.f at h
  split at h
  · cases h; cases hr
  · split at h
    · cases h; cases hr
    · split at h
      · cases h; cases hr
      · rename_i h3
        by_cases h1 : c0 = 1
        · exact .inl h1
        · exact .inr (by have : ¬ placeFrom l3 c1 0 < 0 := fun h4 => h3 ⟨h1, h4⟩; omega)
theorem heapField : Kd.Heap k99 := Kd.heap_iso _ (Kd.heap_pair Kd.heap_string Kd.heap_string)
theorem heapMessage : Kd.Heap k29 := Kd.heap_iso _ (Kd.heap_pair (Kd.heap_slice _ heapField) (Kd.heap_slice _ (Kd.heap_int _)))
theorem heapStored : Kd.Heap k78 := Kd.heap_iso _ (Kd.heap_pair (Kd.heap_int _) (Kd.heap_pair (Kd.heap_int _) (Kd.heap_pair (Kd.heap_int _) (Kd.heap_pair (Kd.heap_int _) heapMessage))))
theorem heapGone : Kd.Heap k73 := Kd.heap_iso _ (Kd.heap_pair (Kd.heap_int _) (Kd.heap_int _))
attribute [local go_sem high] eqFault
set_option maxHeartbeats 8000000 in
set_option maxRecDepth 100000 in
theorem mailbox_Apply.a (k : Nat) (a0 a1 a2 : Int) (A3 : Option Addr) (d3 : Nat) (l3 : List (S78)) (A4 : Option Addr) (d4 : Nat) (l4 : List (S73)) (c0 c1 c2 c3 c4 : Int) (A5 : Option Addr) (d5 : Nat) (l5 : List (S99)) (A6 : Option Addr) (d6 : Nat) (l6 : List Int) (t1 t2 : Int) (w : World) (hr3 : Kd.C k78 w A3 l3.length l3) (hd3 : l3.length ≤ d3) (hr4 : Kd.C k73 w A4 l4.length l4) (hd4 : l4.length ≤ d4) (hr5 : Kd.C k99 w A5 l5.length l5) (hd5 : l5.length ≤ d5) (hr6 : Kd.C (Kd.int .u8) w A6 l6.length l6) (hd6 : l6.length ≤ d6) (hv : mailbox_Validate.f k a0 a1 a2 l3 l4 = some (t1, t2)) (h1 : (t1 == 0 && (t2 == 0)) = false) :
    Calls Tryd.prog 10 #[.agg #[.int .i64 a0, .int .i64 a1, .int .i64 a2, .slice A3 l3.length d3, .slice A4 l4.length d4], .agg #[.int .i64 c0, .int .i64 c1, .int .i64 c2, .int .i64 c3, .int .i64 c4, .slice A5 l5.length d5, .slice A6 l6.length d6]] w fun e w' => ∃ v3_ v4_ : Value, e = .returned (.tuple #[.agg #[.int .i64 0, .int .i64 0, .int .i64 0, v3_, v4_], .agg #[.int .i64 t1, .int .i64 t2]]) ∧ Kd.V k78 78 w' w.heap.size (fun k_ => (w.heap.size ≤ k_)) v3_ [] ∧ Kd.V k73 73 w' w.heap.size (fun k_ => (w.heap.size ≤ k_)) v4_ [] ∧ Below w.heap.size w w' := by
  have HR3 := Aside0.mk hr3
  have HR4 := Aside0.mk hr4
  have HR5 := Aside0.mk hr5
  have HR6 := Aside0.mk hr6
  have HV := Aside0.mk hv
  clear hr3 hr4 hr5 hr6 hv
  go_enter Tryd.func10, Tryd.ntmps10
  go_wp2_with fail
  ((with_reducible refine (mailbox_Validate.calls k a0 a1 a2 _ _ l3 _ _ l4 _ _ _ ?s1 hd3 ?s2 hd4 HV.out).mono ?_); (case s1 => exact Kd.C_below HR3.out (below_alloc (below_alloc (below_alloc (below_alloc (Below.refl _ _) _) _) _) _)); (case s2 => exact Kd.C_below HR4.out (below_alloc (below_alloc (below_alloc (below_alloc (Below.refl _ _) _) _) _) _)); rintro e w1 ⟨rfl, hb⟩; have HB1 := Aside0.mk (below_step (below_alloc (below_alloc (below_alloc (below_alloc (Below.refl _ _) _) _) _) _) hb); have HM1 := Aside0.mk (blk_call (blk_later (blk_later (blk_later (blk_at _) _) _) _) hb); have HC1 := Aside0.mk (blk_call (blk_later (blk_later (blk_at1 _ _) _) _) hb); have HX1 := Aside0.mk (blk_call (blk_later (blk_at2 _ _ _) _) hb); have HY1 := Aside0.mk (blk_call (blk_at3 _ _ _ _) hb); have hz1 := blk_lt HY1.out; have hn0 : w.heap.size ≠ w1.heap.size := (by omega); have hn1 : w.heap.size + 1 ≠ w1.heap.size := (by omega); have hn2 : w.heap.size + 1 + 1 ≠ w1.heap.size := (by omega); have hn3 : w.heap.size + 1 + 1 + 1 ≠ w1.heap.size := (by omega); clear hb)
  have km1 := bc1 HM1.out
  have kc1 := bc1 HC1.out
  go_wp2
  clear km1 kc1
  have HM := Aside0.mk (blk_later HM1.out (.cells #[.int .i64 t1, .int .i64 t2] 35))
  have HC := Aside0.mk (blk_later HC1.out (.cells #[.int .i64 t1, .int .i64 t2] 35))
  have HX := Aside0.mk (blk_later HX1.out (.cells #[.int .i64 t1, .int .i64 t2] 35))
  have HY := Aside0.mk (blk_later HY1.out (.cells #[.int .i64 t1, .int .i64 t2] 35))
  have HF := Aside0.mk (blk_at (w := w1) (.cells #[.int .i64 t1, .int .i64 t2] 35))
  have HB := Aside0.mk (below_alloc HB1.out (.cells #[.int .i64 t1, .int .i64 t2] 35))
  clear HX1 HY1 HM1 HC1 HB1
  have hm0 := hn0.symm
  have hm1 := hn1.symm
  have hm2 := hn2.symm
  have hm3 := hn3.symm
  have hF : w.heap.size ≤ w1.heap.size := by omega
  generalize w1.alloc (.cells #[.int .i64 t1, .int .i64 t2] 35) = W at *
  generalize w1.heap.size = F at *
  have kf := bc0 HF.out
  have kx := bc0 HX.out
  have kxf := bf0 HX.out
  have ky := bc0 HY.out
  have kyf := bf0 HY.out
  have hzx := blk_lt HX.out
  have hzy := blk_lt HY.out
  refine region_till 3 (fun _ => True) (fun w' : World => w'.cell? ⟨F, 0, none⟩ = some (.int .i64 t1) ∧ w'.cell? ⟨F, 1, none⟩ = some (.int .i64 t2)) (by kernel_rfl) ⟨trivial, ⟨kf 0, kf 1⟩⟩ (fun hTU => ?_)
  refine till_take (i := 0) (v := ?_) rfl (by kernel_rfl) (by kernel_rfl) (by kernel_rfl) (by kernel_rfl) (fun _ _ _ h => h) (Or.inl ⟨by rfl, ?_⟩) (by assumption) ?_
  rotate_left
  · (intro w_ hS_; (try dsimp only at hS_); go_simp; try with_reducible rfl)
  try simp only [Act.put, List.setIfInBounds_toArray, List.set_cons_zero, List.set_cons_succ]
  refine till_take (i := 1) (v := ?_) rfl (by kernel_rfl) (by kernel_rfl) (by kernel_rfl) (by kernel_rfl) (fun _ _ _ h => h) (Or.inl ⟨by rfl, ?_⟩) (by assumption) ?_
  rotate_left
  · (intro w_ hS_; (try dsimp only at hS_); go_simp; try with_reducible rfl)
  try simp only [Act.put, List.setIfInBounds_toArray, List.set_cons_zero, List.set_cons_succ]
  refine till_one (i := 2) (by kernel_rfl) rfl (fun K hK => ?_)
  go_simp
  refine hK.out _ _ trivial (fun _ _ => ⟨by go_simp, by go_simp⟩) (fun hTV => ?_)
  clear hK K hTU
  have hTU := hTV (by kernel_rfl) (by decide)
  clear hTV
  try simp only [Act.put, List.setIfInBounds_toArray, List.set_cons_zero, List.set_cons_succ]
  refine till_one (i := 3) (by kernel_rfl) rfl (fun K hK => ?_)
  go_simp
  refine hK.out _ _ trivial (fun _ h => absurd rfl h) (fun _ => ?_)
  clear hK K hTU
  refine till_done (by kernel_rfl) ?_ _
  go_wp2
  exact bodyPost_ret (v := .tuple #[.agg #[.int .i64 0, .int .i64 0, .int .i64 0, .slice none 0 0, .slice none 0 0], .agg #[.int .i64 t1, .int .i64 t2]]) (by simp [results, Tryd.results10, go_sem, kx, ky, hzx, hzy]) rfl ⟨_, _, rfl, Kd.V_nil _ _ _ _ _, Kd.V_nil _ _ _ _ _, below_drew1 (below_set (below_set (below_set (below_set (below_set (below_set (below_set HB.out (by omega)) (by omega)) (by omega)) (by omega)) (by omega)) (by omega)) (by omega))⟩
attribute [local go_sem high] eqFault
set_option maxHeartbeats 8000000 in
set_option maxRecDepth 100000 in
theorem mailbox_Apply.b (k : Nat) (a0 a1 a2 : Int) (A3 : Option Addr) (d3 : Nat) (l3 : List (S78)) (A4 : Option Addr) (d4 : Nat) (l4 : List (S73)) (c0 c1 c2 c3 c4 : Int) (A5 : Option Addr) (d5 : Nat) (l5 : List (S99)) (A6 : Option Addr) (d6 : Nat) (l6 : List Int) (t1 t2 : Int) (w : World) (hr3 : Kd.C k78 w A3 l3.length l3) (hd3 : l3.length ≤ d3) (hr4 : Kd.C k73 w A4 l4.length l4) (hd4 : l4.length ≤ d4) (hr5 : Kd.C k99 w A5 l5.length l5) (hd5 : l5.length ≤ d5) (hr6 : Kd.C (Kd.int .u8) w A6 l6.length l6) (hd6 : l6.length ≤ d6) (hv : mailbox_Validate.f k a0 a1 a2 l3 l4 = some (0, 0)) (hv2 : mailbox_change.f k c0 c1 c2 c3 c4 l5 l6 = some (t1, t2)) (h1 : (t1 == 0 && (t2 == 0)) = false) :
    Calls Tryd.prog 10 #[.agg #[.int .i64 a0, .int .i64 a1, .int .i64 a2, .slice A3 l3.length d3, .slice A4 l4.length d4], .agg #[.int .i64 c0, .int .i64 c1, .int .i64 c2, .int .i64 c3, .int .i64 c4, .slice A5 l5.length d5, .slice A6 l6.length d6]] w fun e w' => ∃ v3_ v4_ : Value, e = .returned (.tuple #[.agg #[.int .i64 0, .int .i64 0, .int .i64 0, v3_, v4_], .agg #[.int .i64 t1, .int .i64 t2]]) ∧ Kd.V k78 78 w' w.heap.size (fun k_ => (w.heap.size ≤ k_)) v3_ [] ∧ Kd.V k73 73 w' w.heap.size (fun k_ => (w.heap.size ≤ k_)) v4_ [] ∧ Below w.heap.size w w' := by
  have HR3 := Aside0.mk hr3
  have HR4 := Aside0.mk hr4
  have HR5 := Aside0.mk hr5
  have HR6 := Aside0.mk hr6
  have HV := Aside0.mk hv
  clear hr3 hr4 hr5 hr6 hv
  have HV2 := Aside0.mk hv2
  clear hv2
  go_enter Tryd.func10, Tryd.ntmps10
  go_wp2_with fail
  ((with_reducible refine (mailbox_Validate.calls k a0 a1 a2 _ _ l3 _ _ l4 _ _ _ ?s1 hd3 ?s2 hd4 HV.out).mono ?_); (case s1 => exact Kd.C_below HR3.out (below_alloc (below_alloc (below_alloc (below_alloc (Below.refl _ _) _) _) _) _)); (case s2 => exact Kd.C_below HR4.out (below_alloc (below_alloc (below_alloc (below_alloc (Below.refl _ _) _) _) _) _)); rintro e w1 ⟨rfl, hb⟩; have HB1 := Aside0.mk (below_step (below_alloc (below_alloc (below_alloc (below_alloc (Below.refl _ _) _) _) _) _) hb); have HM1 := Aside0.mk (blk_call (blk_later (blk_later (blk_later (blk_at _) _) _) _) hb); have HC1 := Aside0.mk (blk_call (blk_later (blk_later (blk_at1 _ _) _) _) hb); have HX1 := Aside0.mk (blk_call (blk_later (blk_at2 _ _ _) _) hb); have HY1 := Aside0.mk (blk_call (blk_at3 _ _ _ _) hb); have hz1 := blk_lt HY1.out; have hn0 : w.heap.size ≠ w1.heap.size := (by omega); have hn1 : w.heap.size + 1 ≠ w1.heap.size := (by omega); have hn2 : w.heap.size + 1 + 1 ≠ w1.heap.size := (by omega); have hn3 : w.heap.size + 1 + 1 + 1 ≠ w1.heap.size := (by omega); clear hb)
  have km1 := bc1 HM1.out
  have kc1 := bc1 HC1.out
  go_wp2_with fail
  clear km1 kc1
  have HM := Aside0.mk (blk_later HM1.out (.cells #[.int .i64 0, .int .i64 0] 35))
  have HC := Aside0.mk (blk_later HC1.out (.cells #[.int .i64 0, .int .i64 0] 35))
  have HX := Aside0.mk (blk_later HX1.out (.cells #[.int .i64 0, .int .i64 0] 35))
  have HY := Aside0.mk (blk_later HY1.out (.cells #[.int .i64 0, .int .i64 0] 35))
  have HF := Aside0.mk (blk_at (w := w1) (.cells #[.int .i64 0, .int .i64 0] 35))
  have HB := Aside0.mk (below_alloc HB1.out (.cells #[.int .i64 0, .int .i64 0] 35))
  clear HX1 HY1 HM1 HC1 HB1
  have hm0 := hn0.symm
  have hm1 := hn1.symm
  have hm2 := hn2.symm
  have hm3 := hn3.symm
  have hF : w.heap.size ≤ w1.heap.size := by omega
  generalize w1.alloc (.cells #[.int .i64 0, .int .i64 0] 35) = W at *
  generalize w1.heap.size = F at *
  refine (mailbox_change.calls k c0 c1 c2 c3 c4 _ _ l5 _ _ l6 _ _ _ (Kd.C_below HR5.out HB.out) hd5 (Kd.C_below HR6.out HB.out) hd6 HV2.out).mono ?_
  rintro e w2 ⟨rfl, hb⟩
  have HM0 := Aside0.mk (blk_call HM.out hb)
  have HC0 := Aside0.mk (blk_call HC.out hb)
  have HX0 := Aside0.mk (blk_call HX.out hb)
  have HY0 := Aside0.mk (blk_call HY.out hb)
  have HF0 := Aside0.mk (blk_call HF.out hb)
  have HB0 := Aside0.mk (below_step HB.out hb)
  clear hb HM HC HX HY HF HB
  have km := bc0 HM0.out
  have kc := bc0 HC0.out
  have kf := bc0 HF0.out
  have kff := bf0 HF0.out
  have hzf := blk_lt HF0.out
  go_wp2
  clear km kc kf kff hzf
  have HM := Aside0.mk (blk_far (p := ⟨F, 1, none⟩) (blk_far (p := ⟨F, 0, none⟩) HM0.out hn0 (.int .i64 t1)) hn0 (.int .i64 t2))
  have HC := Aside0.mk (blk_far (p := ⟨F, 1, none⟩) (blk_far (p := ⟨F, 0, none⟩) HC0.out hn1 (.int .i64 t1)) hn1 (.int .i64 t2))
  have HX := Aside0.mk (blk_far (p := ⟨F, 1, none⟩) (blk_far (p := ⟨F, 0, none⟩) HX0.out hn2 (.int .i64 t1)) hn2 (.int .i64 t2))
  have HY := Aside0.mk (blk_far (p := ⟨F, 1, none⟩) (blk_far (p := ⟨F, 0, none⟩) HY0.out hn3 (.int .i64 t1)) hn3 (.int .i64 t2))
  have HF := Aside0.mk (blk_put (blk_put HF0.out 0 (.int .i64 t1) rfl) 1 (.int .i64 t2) rfl)
  have HB := Aside0.mk (below_set (j := 1) (v := (.int .i64 t2)) (below_set (j := 0) (v := (.int .i64 t1)) HB0.out hF) hF)
  clear HM0 HC0 HX0 HY0 HF0 HB0
  generalize (w2.setCell ⟨F, 0, none⟩ (.int .i64 t1)).setCell ⟨F, 1, none⟩ (.int .i64 t2) = W2 at *
  have kf := bc0 HF.out
  have kx := bc0 HX.out
  have kxf := bf0 HX.out
  have ky := bc0 HY.out
  have kyf := bf0 HY.out
  have hzx := blk_lt HX.out
  have hzy := blk_lt HY.out
  refine region_till 3 (fun _ => True) (fun w' : World => w'.cell? ⟨F, 0, none⟩ = some (.int .i64 t1) ∧ w'.cell? ⟨F, 1, none⟩ = some (.int .i64 t2)) (by kernel_rfl) ⟨trivial, ⟨kf 0, kf 1⟩⟩ (fun hTU => ?_)
  refine till_take (i := 0) (v := ?_) rfl (by kernel_rfl) (by kernel_rfl) (by kernel_rfl) (by kernel_rfl) (fun _ _ _ h => h) (Or.inl ⟨by rfl, ?_⟩) (by assumption) ?_
  rotate_left
  · (intro w_ hS_; (try dsimp only at hS_); go_simp; try with_reducible rfl)
  try simp only [Act.put, List.setIfInBounds_toArray, List.set_cons_zero, List.set_cons_succ]
  refine till_take (i := 1) (v := ?_) rfl (by kernel_rfl) (by kernel_rfl) (by kernel_rfl) (by kernel_rfl) (fun _ _ _ h => h) (Or.inl ⟨by rfl, ?_⟩) (by assumption) ?_
  rotate_left
  · (intro w_ hS_; (try dsimp only at hS_); go_simp; try with_reducible rfl)
  try simp only [Act.put, List.setIfInBounds_toArray, List.set_cons_zero, List.set_cons_succ]
  refine till_one (i := 2) (by kernel_rfl) rfl (fun K hK => ?_)
  go_simp
  refine hK.out _ _ trivial (fun _ _ => ⟨by go_simp, by go_simp⟩) (fun hTV => ?_)
  clear hK K hTU
  have hTU := hTV (by kernel_rfl) (by decide)
  clear hTV
  try simp only [Act.put, List.setIfInBounds_toArray, List.set_cons_zero, List.set_cons_succ]
  refine till_one (i := 3) (by kernel_rfl) rfl (fun K hK => ?_)
  go_simp
  refine hK.out _ _ trivial (fun _ h => absurd rfl h) (fun _ => ?_)
  clear hK K hTU
  refine till_done (by kernel_rfl) ?_ _
  go_wp2
  exact bodyPost_ret (v := .tuple #[.agg #[.int .i64 0, .int .i64 0, .int .i64 0, .slice none 0 0, .slice none 0 0], .agg #[.int .i64 t1, .int .i64 t2]]) (by simp [results, Tryd.results10, go_sem, kx, ky, hzx, hzy]) rfl ⟨_, _, rfl, Kd.V_nil _ _ _ _ _, Kd.V_nil _ _ _ _ _, below_drew1 (below_set (below_set (below_set (below_set (below_set (below_set (below_set HB.out (by omega)) (by omega)) (by omega)) (by omega)) (by omega)) (by omega)) (by omega))⟩
attribute [local go_sem high] eqFault
set_option maxHeartbeats 8000000 in
set_option maxRecDepth 100000 in
theorem mailbox_Apply.c (k : Nat) (a0 a1 a2 : Int) (A3 : Option Addr) (d3 : Nat) (l3 : List (S78)) (A4 : Option Addr) (d4 : Nat) (l4 : List (S73)) (c0 c1 c2 c3 c4 : Int) (A5 : Option Addr) (d5 : Nat) (l5 : List (S99)) (A6 : Option Addr) (d6 : Nat) (l6 : List Int) (t1 t2 : Int) (w : World) (hr3 : Kd.C k78 w A3 l3.length l3) (hd3 : l3.length ≤ d3) (hr4 : Kd.C k73 w A4 l4.length l4) (hd4 : l4.length ≤ d4) (hr5 : Kd.C k99 w A5 l5.length l5) (hd5 : l5.length ≤ d5) (hr6 : Kd.C (Kd.int .u8) w A6 l6.length l6) (hd6 : l6.length ≤ d6) (hv : mailbox_Validate.f k a0 a1 a2 l3 l4 = some (0, 0)) (hv2 : mailbox_change.f k c0 c1 c2 c3 c4 l5 l6 = some (0, 0)) (hv3 : mailbox_possible.f a0 a1 a2 l3 l4 c0 c1 c2 c3 c4 l5 l6 = some (t1, t2)) (h1 : (t1 == 0 && (t2 == 0)) = false) :
    Calls Tryd.prog 10 #[.agg #[.int .i64 a0, .int .i64 a1, .int .i64 a2, .slice A3 l3.length d3, .slice A4 l4.length d4], .agg #[.int .i64 c0, .int .i64 c1, .int .i64 c2, .int .i64 c3, .int .i64 c4, .slice A5 l5.length d5, .slice A6 l6.length d6]] w fun e w' => ∃ v3_ v4_ : Value, e = .returned (.tuple #[.agg #[.int .i64 0, .int .i64 0, .int .i64 0, v3_, v4_], .agg #[.int .i64 t1, .int .i64 t2]]) ∧ Kd.V k78 78 w' w.heap.size (fun k_ => (w.heap.size ≤ k_)) v3_ [] ∧ Kd.V k73 73 w' w.heap.size (fun k_ => (w.heap.size ≤ k_)) v4_ [] ∧ Below w.heap.size w w' := by
  have HR3 := Aside0.mk hr3
  have HR4 := Aside0.mk hr4
  have HR5 := Aside0.mk hr5
  have HR6 := Aside0.mk hr6
  have HV := Aside0.mk hv
  clear hr3 hr4 hr5 hr6 hv
  have HV2 := Aside0.mk hv2
  have HV3 := Aside0.mk hv3
  clear hv2 hv3
  go_enter Tryd.func10, Tryd.ntmps10
  go_wp2_with fail
  ((with_reducible refine (mailbox_Validate.calls k a0 a1 a2 _ _ l3 _ _ l4 _ _ _ ?s1 hd3 ?s2 hd4 HV.out).mono ?_); (case s1 => exact Kd.C_below HR3.out (below_alloc (below_alloc (below_alloc (below_alloc (Below.refl _ _) _) _) _) _)); (case s2 => exact Kd.C_below HR4.out (below_alloc (below_alloc (below_alloc (below_alloc (Below.refl _ _) _) _) _) _)); rintro e w1 ⟨rfl, hb⟩; have HB1 := Aside0.mk (below_step (below_alloc (below_alloc (below_alloc (below_alloc (Below.refl _ _) _) _) _) _) hb); have HM1 := Aside0.mk (blk_call (blk_later (blk_later (blk_later (blk_at _) _) _) _) hb); have HC1 := Aside0.mk (blk_call (blk_later (blk_later (blk_at1 _ _) _) _) hb); have HX1 := Aside0.mk (blk_call (blk_later (blk_at2 _ _ _) _) hb); have HY1 := Aside0.mk (blk_call (blk_at3 _ _ _ _) hb); have hz1 := blk_lt HY1.out; have hn0 : w.heap.size ≠ w1.heap.size := (by omega); have hn1 : w.heap.size + 1 ≠ w1.heap.size := (by omega); have hn2 : w.heap.size + 1 + 1 ≠ w1.heap.size := (by omega); have hn3 : w.heap.size + 1 + 1 + 1 ≠ w1.heap.size := (by omega); clear hb)
  have km1 := bc1 HM1.out
  have kc1 := bc1 HC1.out
  go_wp2_with fail
  clear km1 kc1
  have HM := Aside0.mk (blk_later HM1.out (.cells #[.int .i64 0, .int .i64 0] 35))
  have HC := Aside0.mk (blk_later HC1.out (.cells #[.int .i64 0, .int .i64 0] 35))
  have HX := Aside0.mk (blk_later HX1.out (.cells #[.int .i64 0, .int .i64 0] 35))
  have HY := Aside0.mk (blk_later HY1.out (.cells #[.int .i64 0, .int .i64 0] 35))
  have HF := Aside0.mk (blk_at (w := w1) (.cells #[.int .i64 0, .int .i64 0] 35))
  have HB := Aside0.mk (below_alloc HB1.out (.cells #[.int .i64 0, .int .i64 0] 35))
  clear HX1 HY1 HM1 HC1 HB1
  have hm0 := hn0.symm
  have hm1 := hn1.symm
  have hm2 := hn2.symm
  have hm3 := hn3.symm
  have hF : w.heap.size ≤ w1.heap.size := by omega
  generalize w1.alloc (.cells #[.int .i64 0, .int .i64 0] 35) = W at *
  generalize w1.heap.size = F at *
  refine (mailbox_change.calls k c0 c1 c2 c3 c4 _ _ l5 _ _ l6 _ _ _ (Kd.C_below HR5.out HB.out) hd5 (Kd.C_below HR6.out HB.out) hd6 HV2.out).mono ?_
  rintro e w2 ⟨rfl, hb⟩
  have HM0 := Aside0.mk (blk_call HM.out hb)
  have HC0 := Aside0.mk (blk_call HC.out hb)
  have HX0 := Aside0.mk (blk_call HX.out hb)
  have HY0 := Aside0.mk (blk_call HY.out hb)
  have HF0 := Aside0.mk (blk_call HF.out hb)
  have HB0 := Aside0.mk (below_step HB.out hb)
  clear hb HM HC HX HY HF HB
  have km := bc0 HM0.out
  have kc := bc0 HC0.out
  have kf := bc0 HF0.out
  have kff := bf0 HF0.out
  have hzf := blk_lt HF0.out
  go_wp2_with fail
  clear km kc kf kff hzf
  have HM := Aside0.mk (blk_far (p := ⟨F, 1, none⟩) (blk_far (p := ⟨F, 0, none⟩) HM0.out hn0 (.int .i64 0)) hn0 (.int .i64 0))
  have HC := Aside0.mk (blk_far (p := ⟨F, 1, none⟩) (blk_far (p := ⟨F, 0, none⟩) HC0.out hn1 (.int .i64 0)) hn1 (.int .i64 0))
  have HX := Aside0.mk (blk_far (p := ⟨F, 1, none⟩) (blk_far (p := ⟨F, 0, none⟩) HX0.out hn2 (.int .i64 0)) hn2 (.int .i64 0))
  have HY := Aside0.mk (blk_far (p := ⟨F, 1, none⟩) (blk_far (p := ⟨F, 0, none⟩) HY0.out hn3 (.int .i64 0)) hn3 (.int .i64 0))
  have HF := Aside0.mk (blk_put (blk_put HF0.out 0 (.int .i64 0) rfl) 1 (.int .i64 0) rfl)
  have HB := Aside0.mk (below_set (j := 1) (v := (.int .i64 0)) (below_set (j := 0) (v := (.int .i64 0)) HB0.out hF) hF)
  clear HM0 HC0 HX0 HY0 HF0 HB0
  generalize (w2.setCell ⟨F, 0, none⟩ (.int .i64 0)).setCell ⟨F, 1, none⟩ (.int .i64 0) = W2 at *
  refine (mailbox_possible.calls a0 a1 a2 _ _ l3 _ _ l4 c0 c1 c2 c3 c4 _ _ l5 _ _ l6 _ _ _ (Kd.C_below HR3.out HB.out) hd3 (Kd.C_below HR4.out HB.out) hd4 (Kd.C_below HR5.out HB.out) hd5 (Kd.C_below HR6.out HB.out) hd6 HV3.out).mono ?_
  rintro e w3 ⟨rfl, hb⟩
  have HM0 := Aside0.mk (blk_call HM.out hb)
  have HC0 := Aside0.mk (blk_call HC.out hb)
  have HX0 := Aside0.mk (blk_call HX.out hb)
  have HY0 := Aside0.mk (blk_call HY.out hb)
  have HF0 := Aside0.mk (blk_call HF.out hb)
  have HB0 := Aside0.mk (below_step HB.out hb)
  clear hb HM HC HX HY HF HB
  have km := bc0 HM0.out
  have kc := bc0 HC0.out
  have kf := bc0 HF0.out
  have kff := bf0 HF0.out
  have hzf := blk_lt HF0.out
  go_wp2
  clear km kc kf kff hzf
  have HM := Aside0.mk (blk_far (p := ⟨F, 1, none⟩) (blk_far (p := ⟨F, 0, none⟩) HM0.out hn0 (.int .i64 t1)) hn0 (.int .i64 t2))
  have HC := Aside0.mk (blk_far (p := ⟨F, 1, none⟩) (blk_far (p := ⟨F, 0, none⟩) HC0.out hn1 (.int .i64 t1)) hn1 (.int .i64 t2))
  have HX := Aside0.mk (blk_far (p := ⟨F, 1, none⟩) (blk_far (p := ⟨F, 0, none⟩) HX0.out hn2 (.int .i64 t1)) hn2 (.int .i64 t2))
  have HY := Aside0.mk (blk_far (p := ⟨F, 1, none⟩) (blk_far (p := ⟨F, 0, none⟩) HY0.out hn3 (.int .i64 t1)) hn3 (.int .i64 t2))
  have HF := Aside0.mk (blk_put (blk_put HF0.out 0 (.int .i64 t1) rfl) 1 (.int .i64 t2) rfl)
  have HB := Aside0.mk (below_set (j := 1) (v := (.int .i64 t2)) (below_set (j := 0) (v := (.int .i64 t1)) HB0.out hF) hF)
  clear HM0 HC0 HX0 HY0 HF0 HB0
  generalize (w3.setCell ⟨F, 0, none⟩ (.int .i64 t1)).setCell ⟨F, 1, none⟩ (.int .i64 t2) = W3 at *
  have kf := bc0 HF.out
  have kx := bc0 HX.out
  have kxf := bf0 HX.out
  have ky := bc0 HY.out
  have kyf := bf0 HY.out
  have hzx := blk_lt HX.out
  have hzy := blk_lt HY.out
  refine region_till 3 (fun _ => True) (fun w' : World => w'.cell? ⟨F, 0, none⟩ = some (.int .i64 t1) ∧ w'.cell? ⟨F, 1, none⟩ = some (.int .i64 t2)) (by kernel_rfl) ⟨trivial, ⟨kf 0, kf 1⟩⟩ (fun hTU => ?_)
  refine till_take (i := 0) (v := ?_) rfl (by kernel_rfl) (by kernel_rfl) (by kernel_rfl) (by kernel_rfl) (fun _ _ _ h => h) (Or.inl ⟨by rfl, ?_⟩) (by assumption) ?_
  rotate_left
  · (intro w_ hS_; (try dsimp only at hS_); go_simp; try with_reducible rfl)
  try simp only [Act.put, List.setIfInBounds_toArray, List.set_cons_zero, List.set_cons_succ]
  refine till_take (i := 1) (v := ?_) rfl (by kernel_rfl) (by kernel_rfl) (by kernel_rfl) (by kernel_rfl) (fun _ _ _ h => h) (Or.inl ⟨by rfl, ?_⟩) (by assumption) ?_
  rotate_left
  · (intro w_ hS_; (try dsimp only at hS_); go_simp; try with_reducible rfl)
  try simp only [Act.put, List.setIfInBounds_toArray, List.set_cons_zero, List.set_cons_succ]
  refine till_one (i := 2) (by kernel_rfl) rfl (fun K hK => ?_)
  go_simp
  refine hK.out _ _ trivial (fun _ _ => ⟨by go_simp, by go_simp⟩) (fun hTV => ?_)
  clear hK K hTU
  have hTU := hTV (by kernel_rfl) (by decide)
  clear hTV
  try simp only [Act.put, List.setIfInBounds_toArray, List.set_cons_zero, List.set_cons_succ]
  refine till_one (i := 3) (by kernel_rfl) rfl (fun K hK => ?_)
  go_simp
  refine hK.out _ _ trivial (fun _ h => absurd rfl h) (fun _ => ?_)
  clear hK K hTU
  refine till_done (by kernel_rfl) ?_ _
  go_wp2
  exact bodyPost_ret (v := .tuple #[.agg #[.int .i64 0, .int .i64 0, .int .i64 0, .slice none 0 0, .slice none 0 0], .agg #[.int .i64 t1, .int .i64 t2]]) (by simp [results, Tryd.results10, go_sem, kx, ky, hzx, hzy]) rfl ⟨_, _, rfl, Kd.V_nil _ _ _ _ _, Kd.V_nil _ _ _ _ _, below_drew1 (below_set (below_set (below_set (below_set (below_set (below_set (below_set HB.out (by omega)) (by omega)) (by omega)) (by omega)) (by omega)) (by omega)) (by omega))⟩
attribute [local go_sem high] eqFault
set_option maxHeartbeats 8000000 in
set_option maxRecDepth 100000 in
theorem mailbox_Apply.d (k : Nat) (a0 a1 a2 : Int) (A3 : Option Addr) (d3 : Nat) (l3 : List (S78)) (A4 : Option Addr) (d4 : Nat) (l4 : List (S73)) (c0 c1 c2 c3 c4 : Int) (A5 : Option Addr) (d5 : Nat) (l5 : List (S99)) (A6 : Option Addr) (d6 : Nat) (l6 : List Int) (r1 r2 r3 : Int) (r4 : List (S78)) (r5 : List (S73)) (w : World) (hr3 : Kd.C k78 w A3 l3.length l3) (hd3 : l3.length ≤ d3) (hr4 : Kd.C k73 w A4 l4.length l4) (hd4 : l4.length ≤ d4) (hr5 : Kd.C k99 w A5 l5.length l5) (hd5 : l5.length ≤ d5) (hr6 : Kd.C (Kd.int .u8) w A6 l6.length l6) (hd6 : l6.length ≤ d6) (hv : mailbox_Validate.f k a0 a1 a2 l3 l4 = some (0, 0)) (hv2 : mailbox_change.f k c0 c1 c2 c3 c4 l5 l6 = some (0, 0)) (hv3 : mailbox_possible.f a0 a1 a2 l3 l4 c0 c1 c2 c3 c4 l5 l6 = some (0, 0)) (hs : sized l3 l4 l5 l6) (hm : mailbox_Do.m a0 a1 a2 l3 l4 c0 c1 c2 c3 c4 l5 l6 = (r1, r2, r3, r4, r5)) :
    Calls Tryd.prog 10 #[.agg #[.int .i64 a0, .int .i64 a1, .int .i64 a2, .slice A3 l3.length d3, .slice A4 l4.length d4], .agg #[.int .i64 c0, .int .i64 c1, .int .i64 c2, .int .i64 c3, .int .i64 c4, .slice A5 l5.length d5, .slice A6 l6.length d6]] w fun e w' => ∃ v3_ v4_ : Value, e = .returned (.tuple #[.agg #[.int .i64 r1, .int .i64 r2, .int .i64 r3, v3_, v4_], .agg #[.int .i64 0, .int .i64 0]]) ∧ Kd.V k78 78 w' w.heap.size (fun k_ => (w.heap.size ≤ k_)) v3_ r4 ∧ Kd.V k73 73 w' w.heap.size (fun k_ => (w.heap.size ≤ k_)) v4_ r5 ∧ Below w.heap.size w w' := by
  have HR3 := Aside0.mk hr3
  have HR4 := Aside0.mk hr4
  have HR5 := Aside0.mk hr5
  have HR6 := Aside0.mk hr6
  have HV := Aside0.mk hv
  clear hr3 hr4 hr5 hr6 hv
  have HV2 := Aside0.mk hv2
  have HV3 := Aside0.mk hv3
  have HKK := Aside0.mk (change_kinds hv2 rfl)
  have HPP := Aside0.mk (possible_place a0 a1 a2 l3 l4 c0 c1 c2 c3 c4 l5 l6 _ hv3 rfl)
  have HS := Aside0.mk hs
  have HD := Aside0.mk hm
  have n3 := HR3.out.2.1
  clear hv2 hv3 hs hm
  go_enter Tryd.func10, Tryd.ntmps10
  go_wp2_with fail
  ((with_reducible refine (mailbox_Validate.calls k a0 a1 a2 _ _ l3 _ _ l4 _ _ _ ?s1 hd3 ?s2 hd4 HV.out).mono ?_); (case s1 => exact Kd.C_below HR3.out (below_alloc (below_alloc (below_alloc (below_alloc (Below.refl _ _) _) _) _) _)); (case s2 => exact Kd.C_below HR4.out (below_alloc (below_alloc (below_alloc (below_alloc (Below.refl _ _) _) _) _) _)); rintro e w1 ⟨rfl, hb⟩; have HB1 := Aside0.mk (below_step (below_alloc (below_alloc (below_alloc (below_alloc (Below.refl _ _) _) _) _) _) hb); have HM1 := Aside0.mk (blk_call (blk_later (blk_later (blk_later (blk_at _) _) _) _) hb); have HC1 := Aside0.mk (blk_call (blk_later (blk_later (blk_at1 _ _) _) _) hb); have HX1 := Aside0.mk (blk_call (blk_later (blk_at2 _ _ _) _) hb); have HY1 := Aside0.mk (blk_call (blk_at3 _ _ _ _) hb); have hz1 := blk_lt HY1.out; have hn0 : w.heap.size ≠ w1.heap.size := (by omega); have hn1 : w.heap.size + 1 ≠ w1.heap.size := (by omega); have hn2 : w.heap.size + 1 + 1 ≠ w1.heap.size := (by omega); have hn3 : w.heap.size + 1 + 1 + 1 ≠ w1.heap.size := (by omega); clear hb)
  have km1 := bc1 HM1.out
  have kc1 := bc1 HC1.out
  go_wp2_with fail
  clear km1 kc1
  have HM := Aside0.mk (blk_later HM1.out (.cells #[.int .i64 0, .int .i64 0] 35))
  have HC := Aside0.mk (blk_later HC1.out (.cells #[.int .i64 0, .int .i64 0] 35))
  have HX := Aside0.mk (blk_later HX1.out (.cells #[.int .i64 0, .int .i64 0] 35))
  have HY := Aside0.mk (blk_later HY1.out (.cells #[.int .i64 0, .int .i64 0] 35))
  have HF := Aside0.mk (blk_at (w := w1) (.cells #[.int .i64 0, .int .i64 0] 35))
  have HB := Aside0.mk (below_alloc HB1.out (.cells #[.int .i64 0, .int .i64 0] 35))
  clear HX1 HY1 HM1 HC1 HB1
  have hm0 := hn0.symm
  have hm1 := hn1.symm
  have hm2 := hn2.symm
  have hm3 := hn3.symm
  have hF : w.heap.size ≤ w1.heap.size := by omega
  generalize w1.alloc (.cells #[.int .i64 0, .int .i64 0] 35) = W at *
  generalize w1.heap.size = F at *
  refine (mailbox_change.calls k c0 c1 c2 c3 c4 _ _ l5 _ _ l6 _ _ _ (Kd.C_below HR5.out HB.out) hd5 (Kd.C_below HR6.out HB.out) hd6 HV2.out).mono ?_
  rintro e w2 ⟨rfl, hb⟩
  have HM0 := Aside0.mk (blk_call HM.out hb)
  have HC0 := Aside0.mk (blk_call HC.out hb)
  have HX0 := Aside0.mk (blk_call HX.out hb)
  have HY0 := Aside0.mk (blk_call HY.out hb)
  have HF0 := Aside0.mk (blk_call HF.out hb)
  have HB0 := Aside0.mk (below_step HB.out hb)
  clear hb HM HC HX HY HF HB
  have km := bc0 HM0.out
  have kc := bc0 HC0.out
  have kf := bc0 HF0.out
  have kff := bf0 HF0.out
  have hzf := blk_lt HF0.out
  go_wp2_with fail
  clear km kc kf kff hzf
  have HM := Aside0.mk (blk_far (p := ⟨F, 1, none⟩) (blk_far (p := ⟨F, 0, none⟩) HM0.out hn0 (.int .i64 0)) hn0 (.int .i64 0))
  have HC := Aside0.mk (blk_far (p := ⟨F, 1, none⟩) (blk_far (p := ⟨F, 0, none⟩) HC0.out hn1 (.int .i64 0)) hn1 (.int .i64 0))
  have HX := Aside0.mk (blk_far (p := ⟨F, 1, none⟩) (blk_far (p := ⟨F, 0, none⟩) HX0.out hn2 (.int .i64 0)) hn2 (.int .i64 0))
  have HY := Aside0.mk (blk_far (p := ⟨F, 1, none⟩) (blk_far (p := ⟨F, 0, none⟩) HY0.out hn3 (.int .i64 0)) hn3 (.int .i64 0))
  have HF := Aside0.mk (blk_put (blk_put HF0.out 0 (.int .i64 0) rfl) 1 (.int .i64 0) rfl)
  have HB := Aside0.mk (below_set (j := 1) (v := (.int .i64 0)) (below_set (j := 0) (v := (.int .i64 0)) HB0.out hF) hF)
  clear HM0 HC0 HX0 HY0 HF0 HB0
  generalize (w2.setCell ⟨F, 0, none⟩ (.int .i64 0)).setCell ⟨F, 1, none⟩ (.int .i64 0) = W2 at *
  refine (mailbox_possible.calls a0 a1 a2 _ _ l3 _ _ l4 c0 c1 c2 c3 c4 _ _ l5 _ _ l6 _ _ _ (Kd.C_below HR3.out HB.out) hd3 (Kd.C_below HR4.out HB.out) hd4 (Kd.C_below HR5.out HB.out) hd5 (Kd.C_below HR6.out HB.out) hd6 HV3.out).mono ?_
  rintro e w3 ⟨rfl, hb⟩
  have HM0 := Aside0.mk (blk_call HM.out hb)
  have HC0 := Aside0.mk (blk_call HC.out hb)
  have HX0 := Aside0.mk (blk_call HX.out hb)
  have HY0 := Aside0.mk (blk_call HY.out hb)
  have HF0 := Aside0.mk (blk_call HF.out hb)
  have HB0 := Aside0.mk (below_step HB.out hb)
  clear hb HM HC HX HY HF HB
  have km := bc0 HM0.out
  have kc := bc0 HC0.out
  have kf := bc0 HF0.out
  have kff := bf0 HF0.out
  have hzf := blk_lt HF0.out
  go_wp2_with fail
  clear km kc kf kff hzf
  have HM := Aside0.mk (blk_far (p := ⟨F, 1, none⟩) (blk_far (p := ⟨F, 0, none⟩) HM0.out hn0 (.int .i64 0)) hn0 (.int .i64 0))
  have HC := Aside0.mk (blk_far (p := ⟨F, 1, none⟩) (blk_far (p := ⟨F, 0, none⟩) HC0.out hn1 (.int .i64 0)) hn1 (.int .i64 0))
  have HX := Aside0.mk (blk_far (p := ⟨F, 1, none⟩) (blk_far (p := ⟨F, 0, none⟩) HX0.out hn2 (.int .i64 0)) hn2 (.int .i64 0))
  have HY := Aside0.mk (blk_far (p := ⟨F, 1, none⟩) (blk_far (p := ⟨F, 0, none⟩) HY0.out hn3 (.int .i64 0)) hn3 (.int .i64 0))
  have HF := Aside0.mk (blk_put (blk_put HF0.out 0 (.int .i64 0) rfl) 1 (.int .i64 0) rfl)
  have HB := Aside0.mk (below_set (j := 1) (v := (.int .i64 0)) (below_set (j := 0) (v := (.int .i64 0)) HB0.out hF) hF)
  clear HM0 HC0 HX0 HY0 HF0 HB0
  generalize (w3.setCell ⟨F, 0, none⟩ (.int .i64 0)).setCell ⟨F, 1, none⟩ (.int .i64 0) = W3 at *
  refine (mailbox_Clone.calls (fun k_ => k_ < w.heap.size) a0 a1 a2 _ _ l3 _ _ l4 _ (Kd.F_below (Kd.C_F heapStored HR3.out) HB.out) hd3 (Kd.F_below (Kd.C_F heapGone HR4.out) HB.out) hd4 (by have := HS.out.1; omega) (by have := HS.out.2.1; omega) (fun e he => by have := HS.out.2.2.2.2 e he; omega)).mono ?_
  rintro e w4 ⟨B3, b3, B4, b4, rfl, hl3, hN3, hN4, hb⟩
  have hsz := below_size hb
  have HN3 := Aside0.mk hN3
  have HN4 := Aside0.mk hN4
  have HM4 := Aside0.mk (blk_call HM.out hb)
  have HC4 := Aside0.mk (blk_call HC.out hb)
  have HX4 := Aside0.mk (blk_call HX.out hb)
  have HY4 := Aside0.mk (blk_call HY.out hb)
  have HF4 := Aside0.mk (blk_call HF.out hb)
  have HB4 := Aside0.mk (below_step HB.out hb)
  have hX3 := blk_lt HX.out
  have hY3 := blk_lt HY.out
  have hF3 := blk_lt HF.out
  clear hb hN3 hN4 HM HC HX HY HF HB HM4
  have kc := bc1 HC4.out
  go_wp2_with fail
  clear kc
  have HP := Aside0.mk (blk_at (w := w4) (.cells #[.int .i64 a0, .int .i64 a1, .int .i64 a2, .slice B3 l3.length b3, .slice B4 l4.length b4] 25))
  have HC := Aside0.mk (blk_later HC4.out (.cells #[.int .i64 a0, .int .i64 a1, .int .i64 a2, .slice B3 l3.length b3, .slice B4 l4.length b4] 25))
  have HX := Aside0.mk (blk_later HX4.out (.cells #[.int .i64 a0, .int .i64 a1, .int .i64 a2, .slice B3 l3.length b3, .slice B4 l4.length b4] 25))
  have HY := Aside0.mk (blk_later HY4.out (.cells #[.int .i64 a0, .int .i64 a1, .int .i64 a2, .slice B3 l3.length b3, .slice B4 l4.length b4] 25))
  have HF := Aside0.mk (blk_later HF4.out (.cells #[.int .i64 a0, .int .i64 a1, .int .i64 a2, .slice B3 l3.length b3, .slice B4 l4.length b4] 25))
  have HB := Aside0.mk (below_alloc HB4.out (.cells #[.int .i64 a0, .int .i64 a1, .int .i64 a2, .slice B3 l3.length b3, .slice B4 l4.length b4] 25))
  have HO3 := Aside0.mk (Kd.N_alloc (Kd.N_mono (ok' := fun k_ => (W3.heap.size ≤ k_ ∧ k_ ≠ w4.heap.size) ∧ some k_ ≠ (Value.slice B4 l4.length b4).ownBlock) (Kd.N_bound (Kd.N_lower (base' := W3.heap.size) HN3.out (by omega))) (fun k hk => ⟨⟨by have := hk.1.1; omega, by have := hk.2; omega⟩, hk.1.2⟩)) (.cells #[.int .i64 a0, .int .i64 a1, .int .i64 a2, .slice B3 l3.length b3, .slice B4 l4.length b4] 25))
  have HO4 := Aside0.mk (Kd.N_alloc (Kd.N_mono (ok' := fun k_ => (W3.heap.size ≤ k_ ∧ k_ ≠ w4.heap.size) ∧ some k_ ≠ (Value.slice B3 l3.length b3).ownBlock) (Kd.N_bound (Kd.N_lower (base' := W3.heap.size) HN4.out (by omega))) (fun k hk => ⟨⟨by have := hk.1.1; omega, by have := hk.2; omega⟩, hk.1.2⟩)) (.cells #[.int .i64 a0, .int .i64 a1, .int .i64 a2, .slice B3 l3.length b3, .slice B4 l4.length b4] 25))
  clear HC4 HX4 HY4 HF4 HB4 HN3 HN4
  generalize w4.alloc (.cells #[.int .i64 a0, .int .i64 a1, .int .i64 a2, .slice B3 l3.length b3, .slice B4 l4.length b4] 25) = W4 at *
  generalize w4.heap.size = P at *
  generalize W3.heap.size = base at *
  refine (mailbox_Do.calls P base a0 a1 a2 _ _ l3 _ _ l4 c0 c1 c2 c3 c4 (fun k_ => k_ < w.heap.size) _ _ l5 _ _ l6 _ HP.out hsz HO3.out HO4.out (Kd.F_below (Kd.C_F heapField HR5.out) HB.out) hd5 (Kd.F_below (Kd.C_F (Kd.heap_int _) HR6.out) HB.out) hd6 HKK.out HPP.out (by have := HS.out.1; omega) (by have := HS.out.2.1; omega) (by have := HS.out.2.2.1; omega) (by have := HS.out.2.2.2.1; omega) _ _ _ _ _ HD.out).mono ?_
  rintro e w5 ⟨v3, v4, rfl, hP, hv3, hv4, hb⟩
  obtain ⟨E3, e3, rfl⟩ := Kd.V_slice hv3
  obtain ⟨E4, e4, rfl⟩ := Kd.V_slice hv4
  have HP5 := Aside0.mk hP
  have HV3' := Aside0.mk hv3
  have HV4' := Aside0.mk hv4
  have HX5 := Aside0.mk ((hb.block _ hX3).trans HX.out)
  have HY5 := Aside0.mk ((hb.block _ hY3).trans HY.out)
  have HF5 := Aside0.mk ((hb.block _ hF3).trans HF.out)
  have HB5 := Aside0.mk (HB.out.trans (below_less hb (by omega)))
  clear hP hv3 hv4 hb HP HC HX HY HF HB HO3 HO4
  have kp := bc0 HP5.out
  have kf := bc0 HF5.out
  have kx := bc0 HX5.out
  have kxf := bf0 HX5.out
  have ky := bc0 HY5.out
  have kyf := bf0 HY5.out
  have hzx := blk_lt HX5.out
  have hzy := blk_lt HY5.out
  have hp2 : w.heap.size + 1 + 1 ≠ P := by omega
  have hp3 : w.heap.size + 1 + 1 + 1 ≠ P := by omega
  have hq2 := hp2.symm
  have hq3 := hp3.symm
  go_wp2
  refine region_till 3 (fun _ => True) (fun w' : World => w'.cell? ⟨P, 0, none⟩ = some (.int .i64 r1) ∧ w'.cell? ⟨P, 1, none⟩ = some (.int .i64 r2) ∧ w'.cell? ⟨P, 2, none⟩ = some (.int .i64 r3) ∧ w'.cell? ⟨P, 3, none⟩ = some (.slice E3 r4.length e3) ∧ w'.cell? ⟨P, 4, none⟩ = some (.slice E4 r5.length e4) ∧ w'.cell? ⟨F, 0, none⟩ = some (.int .i64 0) ∧ w'.cell? ⟨F, 1, none⟩ = some (.int .i64 0)) (by kernel_rfl) ⟨trivial, ⟨kp 0, kp 1, kp 2, kp 3, kp 4, kf 0, kf 1⟩⟩ (fun hTU => ?_)
  refine till_take (i := 0) (v := ?_) rfl (by kernel_rfl) (by kernel_rfl) (by kernel_rfl) (by kernel_rfl) (fun _ _ _ h => h) (Or.inl ⟨by rfl, ?_⟩) (by assumption) ?_
  rotate_left
  · (intro w_ hS_; (try dsimp only at hS_); go_simp; try with_reducible rfl)
  try simp only [Act.put, List.setIfInBounds_toArray, List.set_cons_zero, List.set_cons_succ]
  refine till_take (i := 1) (v := ?_) rfl (by kernel_rfl) (by kernel_rfl) (by kernel_rfl) (by kernel_rfl) (fun _ _ _ h => h) (Or.inl ⟨by rfl, ?_⟩) (by assumption) ?_
  rotate_left
  · (intro w_ hS_; (try dsimp only at hS_); go_simp; try with_reducible rfl)
  try simp only [Act.put, List.setIfInBounds_toArray, List.set_cons_zero, List.set_cons_succ]
  refine till_one (i := 2) (by kernel_rfl) rfl (fun K hK => ?_)
  go_simp
  refine hK.out _ _ trivial (fun _ _ => ⟨by go_simp, by go_simp, by go_simp, by go_simp, by go_simp, by go_simp, by go_simp⟩) (fun hTV => ?_)
  clear hK K hTU
  have hTU := hTV (by kernel_rfl) (by decide)
  clear hTV
  try simp only [Act.put, List.setIfInBounds_toArray, List.set_cons_zero, List.set_cons_succ]
  refine till_one (i := 3) (by kernel_rfl) rfl (fun K hK => ?_)
  go_simp
  refine hK.out _ _ trivial (fun _ h => absurd rfl h) (fun _ => ?_)
  clear hK K hTU
  refine till_done (by kernel_rfl) ?_ _
  go_wp2
  refine bodyPost_ret (v := .tuple #[.agg #[.int .i64 r1, .int .i64 r2, .int .i64 r3, .slice E3 r4.length e3, .slice E4 r5.length e4], .agg #[.int .i64 0, .int .i64 0]]) (by simp [results, Tryd.results10, go_sem, kx, ky, hzx, hzy]) rfl ⟨_, _, rfl, ?_, ?_, below_drew1 (below_set (below_set (below_set (below_set (below_set (below_set (below_set HB5.out (by omega)) (by omega)) (by omega)) (by omega)) (by omega)) (by omega)) (by omega))⟩
  · refine Kd.V_drew (Kd.V_mono (ok := fun k_ => base ≤ k_ ∧ k_ ≠ P) (Kd.V_lower (base := base) ?_ (by omega)) (fun k hk => by have := hk.1; omega))
    iterate 2 (refine Kd.V_far ?_ (fun k hk => by have := hk.1; show k ≠ w.heap.size + 1 + 1 + 1; omega) _)
    iterate 5 (refine Kd.V_far ?_ (fun k hk => by have := hk.1; show k ≠ w.heap.size + 1 + 1; omega) _)
    exact HV3'.out
  · refine Kd.V_drew (Kd.V_mono (ok := fun k_ => base ≤ k_ ∧ k_ ≠ P) (Kd.V_lower (base := base) ?_ (by omega)) (fun k hk => by have := hk.1; omega))
    iterate 2 (refine Kd.V_far ?_ (fun k hk => by have := hk.1; show k ≠ w.heap.size + 1 + 1 + 1; omega) _)
    iterate 5 (refine Kd.V_far ?_ (fun k hk => by have := hk.1; show k ≠ w.heap.size + 1 + 1; omega) _)
    exact HV4'.out
attribute [local go_sem high] eqFault
set_option maxHeartbeats 8000000 in
set_option maxRecDepth 100000 in
theorem mailbox_Apply.calls (k : Nat) (a0 a1 a2 : Int) (A3 : Option Addr) (d3 : Nat) (l3 : List (S78)) (A4 : Option Addr) (d4 : Nat) (l4 : List (S73)) (c0 c1 c2 c3 c4 : Int) (A5 : Option Addr) (d5 : Nat) (l5 : List (S99)) (A6 : Option Addr) (d6 : Nat) (l6 : List Int) (r1 r2 r3 : Int) (r4 : List (S78)) (r5 : List (S73)) (r6 r7 : Int) (w : World) (hr3 : Kd.C k78 w A3 l3.length l3) (hd3 : l3.length ≤ d3) (hr4 : Kd.C k73 w A4 l4.length l4) (hd4 : l4.length ≤ d4) (hr5 : Kd.C k99 w A5 l5.length l5) (hd5 : l5.length ≤ d5) (hr6 : Kd.C (Kd.int .u8) w A6 l6.length l6) (hd6 : l6.length ≤ d6)  (h : mailbox_Apply.f k a0 a1 a2 l3 l4 c0 c1 c2 c3 c4 l5 l6 = some (r1, r2, r3, r4, r5, r6, r7)) :
    Calls Tryd.prog 10 #[.agg #[.int .i64 a0, .int .i64 a1, .int .i64 a2, .slice A3 l3.length d3, .slice A4 l4.length d4], .agg #[.int .i64 c0, .int .i64 c1, .int .i64 c2, .int .i64 c3, .int .i64 c4, .slice A5 l5.length d5, .slice A6 l6.length d6]] w fun e w' => ∃ v3_ v4_ : Value, e = .returned (.tuple #[.agg #[.int .i64 r1, .int .i64 r2, .int .i64 r3, v3_, v4_], .agg #[.int .i64 r6, .int .i64 r7]]) ∧ Kd.V k78 78 w' w.heap.size (fun k_ => (w.heap.size ≤ k_)) v3_ r4 ∧ Kd.V k73 73 w' w.heap.size (fun k_ => (w.heap.size ≤ k_)) v4_ r5 ∧ Below w.heap.size w w' := by
  unfold mailbox_Apply.f at h
  obtain ⟨⟨t1, t2⟩, hv, h⟩ := Option.bind_eq_some_iff.1 h
  have nz : ∀ {x y : Int}, ¬ (x = 0 ∧ y = 0) → (x == 0 && (y == 0)) = false := fun {x y} hn => by rw [Bool.and_eq_false_iff, beq_eq_false_iff_ne, beq_eq_false_iff_ne]; by_cases hx : x = 0; exact .inr (fun hy => hn ⟨hx, hy⟩); exact .inl hx
  by_cases e1 : t1 = 0 ∧ t2 = 0
  · rw [if_pos e1] at h
    obtain ⟨rfl, rfl⟩ := e1
    obtain ⟨⟨t1, t2⟩, hv2, h⟩ := Option.bind_eq_some_iff.1 h
    by_cases e2 : t1 = 0 ∧ t2 = 0
    · rw [if_pos e2] at h
      obtain ⟨rfl, rfl⟩ := e2
      obtain ⟨⟨t1, t2⟩, hv3, h⟩ := Option.bind_eq_some_iff.1 h
      by_cases e3 : t1 = 0 ∧ t2 = 0
      · rw [if_pos e3] at h
        obtain ⟨rfl, rfl⟩ := e3
        by_cases hs : sized l3 l4 l5 l6
        · rw [if_pos hs] at h
          simp only [Option.some.injEq, Prod.mk.injEq] at h
          obtain ⟨q1, q2, q3, q4, q5, rfl, rfl⟩ := h
          exact mailbox_Apply.d k a0 a1 a2 A3 d3 l3 A4 d4 l4 c0 c1 c2 c3 c4 A5 d5 l5 A6 d6 l6 r1 r2 r3 r4 r5 w hr3 hd3 hr4 hd4 hr5 hd5 hr6 hd6 hv hv2 hv3 hs (by rw [← q1, ← q2, ← q3, ← q4, ← q5])
        · rw [if_neg hs] at h
          cases h
      · rw [if_neg e3] at h
        cases h
        exact mailbox_Apply.c k a0 a1 a2 A3 d3 l3 A4 d4 l4 c0 c1 c2 c3 c4 A5 d5 l5 A6 d6 l6 _ _ w hr3 hd3 hr4 hd4 hr5 hd5 hr6 hd6 hv hv2 hv3 (nz e3)
    · rw [if_neg e2] at h
      cases h
      exact mailbox_Apply.b k a0 a1 a2 A3 d3 l3 A4 d4 l4 c0 c1 c2 c3 c4 A5 d5 l5 A6 d6 l6 _ _ w hr3 hd3 hr4 hd4 hr5 hd5 hr6 hd6 hv hv2 (nz e2)
  · rw [if_neg e1] at h
    cases h
    exact mailbox_Apply.a k a0 a1 a2 A3 d3 l3 A4 d4 l4 c0 c1 c2 c3 c4 A5 d5 l5 A6 d6 l6 _ _ w hr3 hd3 hr4 hd4 hr5 hd5 hr6 hd6 hv (nz e1)


end Go.Proofs.YtjmnaipoccpbmaaDoor.P
