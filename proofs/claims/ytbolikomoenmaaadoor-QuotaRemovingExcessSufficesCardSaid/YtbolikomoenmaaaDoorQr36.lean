/- Functions of this seat as Lean functions, and that the Go code comes to their answers: written by a program of this session's. -/
import Derived.Test.YtbolikomoenmaaaDoorQr28
import Derived.Test.YtbolikomoenmaaaDoorQr10
import Derived.Test.YtbolikomoenmaaaDoorQr20
import Derived.Test.YtbolikomoenmaaaDoorQr31
import Derived.Test.YtbolikomoenmaaaDoorQr32
namespace Go.Proofs.YtbolikomoenmaaaDoor.P
open Go.RowKit Go.Proofs.YtbolikomoenmaaaDoorW.PrintWords Go.Proofs.YtbolikomoenmaaaDoorW.PrintLast Go.Proofs.YtbolikomoenmaaaDoorW.PrintMore
attribute [local go_sem] max2_int min2_int max_two min_two max_three min_three max_four min_four   -- for this text's walks alone
set_option linter.unusedVariables false
set_option linter.unusedSimpArgs false

/-! ### quota_Excess: function 10 -/
theorem C_one {α : Type} {d : Kd α} {g : Nat} {t : TypeId} {fr : Nat × Nat} {W : World} {x : α} {c : List Value} {cells : Array Value} (hb : W.heap[g]? = some (.cells cells t fr)) (hc : cells.toList = c) (hl : c.length = d.sz) (hx : d.K W x c) : d.C W (some ⟨g, 0, none⟩) 1 [x] := by
  refine ⟨rfl, by omega, fun _ => ⟨_, rfl, fun j p hj => ?_⟩⟩
  match j, hj with
  | 0, hj =>
    simp at hj
    subst hj
    refine ⟨c, hl, hx, fun i u hu => ?_⟩
    rw [add_plain, cell_of_row W g _ cells t fr hb, Nat.zero_mul, Nat.zero_add, ← Array.getElem?_toList, hc]
    exact hu
/-- The first messages that have to go. -/
def excessFrom (k : Nat) (m0 m1 : Int) : List (S68) → Int → Int → List Int → Option (List Int)
  | [], _, _, out => some out
  | x :: l, u, v, out => if u ≤ m0 ∧ v ≤ m1 then some out else if out.length < 17592186044416 then (quota_Size.f k x.f4.f0 x.f4.f1).bind fun t => excessFrom k m0 m1 l (wrap64 (u - t)) (wrap64 (v - 1)) (out ++ [x.f0]) else none
def quota_Excess.f (k : Nat) (a0 a1 a2 : Int) (l3 : List (S68)) (l4 : List (S72)) (m0 m1 : Int) : Option (List Int × Int × Int) :=
  (mailbox_Validate.f k a0 a1 a2 l3 l4).bind fun t => if t.1 = 0 ∧ t.2 = 0 then (quota_limit.f m0 m1).bind fun u => if u.1 = 0 ∧ u.2 = 0 then (quota_sum.f k [⟨a0, a1, a2, l3, l4⟩]).bind fun s => (excessFrom k m0 m1 l3 s.1 s.2 []).bind fun r => some (r, 0, 0) else some ([], u.1, u.2) else some ([], t.1, t.2)
theorem excessFrom_mono : ∀ (l : List (S68)) (m0 m1 u v : Int) (out : List Int) (k : Nat), LeO (excessFrom k m0 m1 l u v out) (excessFrom (k + 1) m0 m1 l u v out)
  | [], _, _, _, _, _, _ => LeO.refl _
  | x :: l, m0, m1, u, v, out, k => by
    unfold excessFrom
    exact LeO.ite (LeO.refl _) (LeO.ite (LeO.bind (quota_Size.mono _ _ _) (fun _ => excessFrom_mono l _ _ _ _ _ _)) (LeO.none _))
theorem quota_Excess.mono : ∀ a0 a1 a2 a3 a4 a5 a6 k, LeO (quota_Excess.f k a0 a1 a2 a3 a4 a5 a6) (quota_Excess.f (k + 1) a0 a1 a2 a3 a4 a5 a6) := by
  intro a0 a1 a2 a3 a4 a5 a6 k
  unfold quota_Excess.f
  exact LeO.bind (mailbox_Validate.mono _ _ _ _ _ _) (fun _ => LeO.ite (LeO.bind (LeO.refl _) (fun _ => LeO.ite (LeO.bind (quota_sum.mono _ _) (fun _ => LeO.bind (excessFrom_mono _ _ _ _ _ _ _) (fun _ => LeO.refl _))) (LeO.refl _))) (LeO.refl _))
attribute [local go_sem high] eqFault
set_option maxHeartbeats 4000000 in
set_option maxRecDepth 100000 in
theorem Excess_a (k : Nat) (a0 a1 a2 : Int) (A3 : Option Addr) (d3 : Nat) (l3 : List (S68)) (A4 : Option Addr) (d4 : Nat) (l4 : List (S72)) (m0 m1 : Int) (t1 t2 : Int) (w : World) (hr3 : Kd.C k68 w A3 l3.length l3) (hd3 : l3.length ≤ d3) (hr4 : Kd.C k72 w A4 l4.length l4) (hd4 : l4.length ≤ d4) (ht : mailbox_Validate.f k a0 a1 a2 l3 l4 = some (t1, t2)) (e1 : (t1 == 0 && (t2 == 0)) = false) :
    Calls Tryd.prog 10 #[.agg #[.int .i64 a0, .int .i64 a1, .int .i64 a2, .slice A3 l3.length d3, .slice A4 l4.length d4], .agg #[.int .i64 m0, .int .i64 m1]] w fun e w' => ∃ v0_ : Value, e = .returned (.tuple #[v0_, .agg #[.int .i64 t1, .int .i64 t2]]) ∧ Kd.R (Kd.int .i64) 3 w' w.heap.size (fun k_ => (w.heap.size ≤ k_)) v0_ [] ∧ Below w.heap.size w w' := by
  have HR3 := Aside0.mk hr3
  clear hr3
  have HR4 := Aside0.mk hr4
  clear hr4
  have HT := Aside0.mk ht
  clear ht
  have hu := Tryd.underlying25
  have hu2 := Tryd.underlying37
  have hu3 := Tryd.underlying68
  have HB := Aside0.mk (below_alloc (below_alloc (below_alloc (Below.refl w.heap.size w) (.cells #[.int .i64 a0, .int .i64 a1, .int .i64 a2, .slice A3 l3.length d3, .slice A4 l4.length d4] 25)) (.cells #[.int .i64 m0, .int .i64 m1] 27)) (.cells #[.int .i64 0, .int .i64 0] 34))
  have HA := Aside0.mk (blk_later (blk_later (blk_at (w := w) (.cells #[.int .i64 a0, .int .i64 a1, .int .i64 a2, .slice A3 l3.length d3, .slice A4 l4.length d4] 25)) (.cells #[.int .i64 m0, .int .i64 m1] 27)) (.cells #[.int .i64 0, .int .i64 0] 34))
  have HL := Aside0.mk (blk_later (blk_at1 (w := w) (.cells #[.int .i64 a0, .int .i64 a1, .int .i64 a2, .slice A3 l3.length d3, .slice A4 l4.length d4] 25) (.cells #[.int .i64 m0, .int .i64 m1] 27)) (.cells #[.int .i64 0, .int .i64 0] 34))
  have HR := Aside0.mk (blk_at2 (w := w) (.cells #[.int .i64 a0, .int .i64 a1, .int .i64 a2, .slice A3 l3.length d3, .slice A4 l4.length d4] 25) (.cells #[.int .i64 m0, .int .i64 m1] 27) (.cells #[.int .i64 0, .int .i64 0] 34))
  go_enter Tryd.func10, Tryd.ntmps10
  go_wp2_with fail
  refine (mailbox_Validate.calls k a0 a1 a2 A3 d3 l3 A4 d4 l4 t1 t2 _ (Kd.C_below HR3.out HB.out) hd3 (Kd.C_below HR4.out HB.out) hd4 HT.out).mono ?_
  rintro e w1 ⟨rfl, hb⟩
  replace HA := Aside0.mk (blk_call HA.out hb)
  replace HL := Aside0.mk (blk_call HL.out hb)
  replace HR := Aside0.mk (blk_call HR.out hb)
  replace HB := Aside0.mk (below_step HB.out hb)
  clear hb
  go_wp2_with fail
  have l1_t1 := blk_lt HA.out
  have l2_t1 := blk_lt HL.out
  have l3_t1 := blk_lt HR.out
  replace HA := Aside0.mk (blk_later HA.out (.cells #[.int .i64 t1, .int .i64 t2] 34))
  replace HL := Aside0.mk (blk_later HL.out (.cells #[.int .i64 t1, .int .i64 t2] 34))
  replace HR := Aside0.mk (blk_later HR.out (.cells #[.int .i64 t1, .int .i64 t2] 34))
  replace HB := Aside0.mk (below_alloc HB.out (.cells #[.int .i64 t1, .int .i64 t2] 34))
  have HF := Aside0.mk (blk_at (w := w1) (.cells #[.int .i64 t1, .int .i64 t2] 34))
  have hs1 : (w1.alloc (.cells #[.int .i64 t1, .int .i64 t2] 34)).heap.size = w1.heap.size + 1 := by simp
  generalize w1.alloc (.cells #[.int .i64 t1, .int .i64 t2] 34) = X2 at *
  generalize w1.heap.size = t1_ at *
  refine region_till 2 (fun _ => True) (fun w' : World => w'.cell? ⟨t1_, 0, none⟩ = some (.int .i64 t1) ∧ w'.cell? ⟨t1_, 1, none⟩ = some (.int .i64 t2)) (by kernel_rfl) ⟨trivial, ⟨bc0 (blk_drew HF.out) 0, bc0 (blk_drew HF.out) 1⟩⟩ (fun hTU => ?_)
  replace HA := Aside0.mk (blk_drew HA.out)
  replace HL := Aside0.mk (blk_drew HL.out)
  replace HR := Aside0.mk (blk_drew HR.out)
  replace HF := Aside0.mk (blk_drew HF.out)
  replace HB := Aside0.mk (below_drew1 HB.out)
  generalize X2.drew = XE at *
  refine till_take (i := 0) (v := ?_) rfl (by kernel_rfl) (by kernel_rfl) (by kernel_rfl) (by kernel_rfl) (fun _ _ _ h => h) (Or.inl ⟨by rfl, ?_⟩) (by assumption) ?_
  rotate_left
  · (intro w_ hS_; (try dsimp only at hS_); go_simp; try with_reducible rfl)
  try simp only [Act.put, List.setIfInBounds_toArray, List.set_cons_zero, List.set_cons_succ]
  refine till_take (i := 1) (v := ?_) rfl (by kernel_rfl) (by kernel_rfl) (by kernel_rfl) (by kernel_rfl) (fun _ _ _ h => h) (Or.inl ⟨by rfl, ?_⟩) (by assumption) ?_
  rotate_left
  · (intro w_ hS_; (try dsimp only at hS_); go_simp; try with_reducible rfl)
  try simp only [Act.put, List.setIfInBounds_toArray, List.set_cons_zero, List.set_cons_succ]
  have kHR := bc0 HR.out
  have fHR := bf0 HR.out
  have yHR := blk_lt HR.out
  refine till_one (i := 2) (by kernel_rfl) rfl (fun K hK => ?_)
  go_simp
  refine hK.out _ _ trivial (fun _ h => absurd rfl h) (fun _ => ?_)
  clear hK K hTU
  refine till_done (by kernel_rfl) ?_ _
  go_wp2
  refine bodyPost_ret (results_tc rfl _ _ (w.heap.size + 1 + 1) 34 #[.int .i64 t1, .int .i64 t2] (0, 0) _ rfl (by (with_reducible repeat (first | refine blk_drewN ?_ _ | refine blk_drew ?_ | refine blk_alloc ?_ _)); refine blk_put (cs := #[.int .i64 t1, .int .i64 0]) ?_ 1 _ rfl; (with_reducible repeat (first | refine blk_drewN ?_ _ | refine blk_drew ?_ | refine blk_alloc ?_ _)); refine blk_put (cs := #[.int .i64 0, .int .i64 0]) ?_ 0 _ rfl; (with_reducible repeat (first | refine blk_drewN ?_ _ | refine blk_drew ?_ | refine blk_alloc ?_ _)); exact HR.out) Tryd.underlying34 rfl (by kernel_rfl)) rfl ⟨_, rfl, Kd.R_nil _ _ _ _ _, (by repeat (first | exact HB.out | (with_reducible apply below_alloc) | (with_reducible apply pw_below_drewN) | (with_reducible refine below_set ?_ (show w.heap.size ≤ w.heap.size + 1 + 1 by omega))))⟩
attribute [local go_sem high] eqFault
set_option maxHeartbeats 4000000 in
set_option maxRecDepth 100000 in
theorem Excess_b (k : Nat) (a0 a1 a2 : Int) (A3 : Option Addr) (d3 : Nat) (l3 : List (S68)) (A4 : Option Addr) (d4 : Nat) (l4 : List (S72)) (m0 m1 : Int) (t1 t2 : Int) (w : World) (hr3 : Kd.C k68 w A3 l3.length l3) (hd3 : l3.length ≤ d3) (hr4 : Kd.C k72 w A4 l4.length l4) (hd4 : l4.length ≤ d4) (ht : mailbox_Validate.f k a0 a1 a2 l3 l4 = some (0, 0)) (hl : quota_limit.f m0 m1 = some (t1, t2)) (e1 : (t1 == 0 && (t2 == 0)) = false) :
    Calls Tryd.prog 10 #[.agg #[.int .i64 a0, .int .i64 a1, .int .i64 a2, .slice A3 l3.length d3, .slice A4 l4.length d4], .agg #[.int .i64 m0, .int .i64 m1]] w fun e w' => ∃ v0_ : Value, e = .returned (.tuple #[v0_, .agg #[.int .i64 t1, .int .i64 t2]]) ∧ Kd.R (Kd.int .i64) 3 w' w.heap.size (fun k_ => (w.heap.size ≤ k_)) v0_ [] ∧ Below w.heap.size w w' := by
  have HLI := Aside0.mk hl
  clear hl
  have HR3 := Aside0.mk hr3
  clear hr3
  have HR4 := Aside0.mk hr4
  clear hr4
  have HT := Aside0.mk ht
  clear ht
  have hu := Tryd.underlying25
  have hu2 := Tryd.underlying37
  have hu3 := Tryd.underlying68
  have HB := Aside0.mk (below_alloc (below_alloc (below_alloc (Below.refl w.heap.size w) (.cells #[.int .i64 a0, .int .i64 a1, .int .i64 a2, .slice A3 l3.length d3, .slice A4 l4.length d4] 25)) (.cells #[.int .i64 m0, .int .i64 m1] 27)) (.cells #[.int .i64 0, .int .i64 0] 34))
  have HA := Aside0.mk (blk_later (blk_later (blk_at (w := w) (.cells #[.int .i64 a0, .int .i64 a1, .int .i64 a2, .slice A3 l3.length d3, .slice A4 l4.length d4] 25)) (.cells #[.int .i64 m0, .int .i64 m1] 27)) (.cells #[.int .i64 0, .int .i64 0] 34))
  have HL := Aside0.mk (blk_later (blk_at1 (w := w) (.cells #[.int .i64 a0, .int .i64 a1, .int .i64 a2, .slice A3 l3.length d3, .slice A4 l4.length d4] 25) (.cells #[.int .i64 m0, .int .i64 m1] 27)) (.cells #[.int .i64 0, .int .i64 0] 34))
  have HR := Aside0.mk (blk_at2 (w := w) (.cells #[.int .i64 a0, .int .i64 a1, .int .i64 a2, .slice A3 l3.length d3, .slice A4 l4.length d4] 25) (.cells #[.int .i64 m0, .int .i64 m1] 27) (.cells #[.int .i64 0, .int .i64 0] 34))
  go_enter Tryd.func10, Tryd.ntmps10
  go_wp2_with fail
  refine (mailbox_Validate.calls k a0 a1 a2 A3 d3 l3 A4 d4 l4 0 0 _ (Kd.C_below HR3.out HB.out) hd3 (Kd.C_below HR4.out HB.out) hd4 HT.out).mono ?_
  rintro e w1 ⟨rfl, hb⟩
  replace HA := Aside0.mk (blk_call HA.out hb)
  replace HL := Aside0.mk (blk_call HL.out hb)
  replace HR := Aside0.mk (blk_call HR.out hb)
  replace HB := Aside0.mk (below_step HB.out hb)
  clear hb
  have kHL := bc0 HL.out
  have mHL := bc1 HL.out
  have fHL := bf0 HL.out
  have pHL := bf1 HL.out
  have yHL := blk_lt HL.out
  go_wp2_with fail
  clear kHL mHL fHL pHL yHL
  have l1_t1 := blk_lt HA.out
  have l2_t1 := blk_lt HL.out
  have l3_t1 := blk_lt HR.out
  replace HA := Aside0.mk (blk_later HA.out (.cells #[.int .i64 0, .int .i64 0] 34))
  replace HL := Aside0.mk (blk_later HL.out (.cells #[.int .i64 0, .int .i64 0] 34))
  replace HR := Aside0.mk (blk_later HR.out (.cells #[.int .i64 0, .int .i64 0] 34))
  replace HB := Aside0.mk (below_alloc HB.out (.cells #[.int .i64 0, .int .i64 0] 34))
  have HF := Aside0.mk (blk_at (w := w1) (.cells #[.int .i64 0, .int .i64 0] 34))
  have hs1 : (w1.alloc (.cells #[.int .i64 0, .int .i64 0] 34)).heap.size = w1.heap.size + 1 := by simp
  generalize w1.alloc (.cells #[.int .i64 0, .int .i64 0] 34) = X2 at *
  generalize w1.heap.size = t1_ at *
  refine (quota_limit.calls m0 m1 t1 t2 _ HLI.out).mono ?_
  rintro e w3 ⟨rfl, hb⟩
  replace HA := Aside0.mk (blk_call HA.out hb)
  replace HL := Aside0.mk (blk_call HL.out hb)
  replace HR := Aside0.mk (blk_call HR.out hb)
  replace HF := Aside0.mk (blk_call HF.out hb)
  replace HB := Aside0.mk (below_step HB.out hb)
  clear hb
  have kHF := bc0 HF.out
  have mHF := bc1 HF.out
  have fHF := bf0 HF.out
  have pHF := bf1 HF.out
  have yHF := blk_lt HF.out
  have kHR := bc0 HR.out
  have mHR := bc1 HR.out
  have fHR := bf0 HR.out
  have pHR := bf1 HR.out
  have yHR := blk_lt HR.out
  go_wp2_with fail
  clear kHF mHF fHF pHF yHF kHR mHR fHR pHR yHR
  replace HA := Aside0.mk (blk_far (p := ⟨t1_, 1, none⟩) (blk_far (p := ⟨t1_, 0, none⟩) HA.out (show w.heap.size ≠ t1_ by omega) (.int .i64 t1)) (show w.heap.size ≠ t1_ by omega) (.int .i64 t2))
  replace HL := Aside0.mk (blk_far (p := ⟨t1_, 1, none⟩) (blk_far (p := ⟨t1_, 0, none⟩) HL.out (show w.heap.size + 1 ≠ t1_ by omega) (.int .i64 t1)) (show w.heap.size + 1 ≠ t1_ by omega) (.int .i64 t2))
  replace HR := Aside0.mk (blk_far (p := ⟨t1_, 1, none⟩) (blk_far (p := ⟨t1_, 0, none⟩) HR.out (show w.heap.size + 1 + 1 ≠ t1_ by omega) (.int .i64 t1)) (show w.heap.size + 1 + 1 ≠ t1_ by omega) (.int .i64 t2))
  replace HF : Aside0 ((((w3).setCell ⟨t1_, 0, none⟩ (.int .i64 t1)).setCell ⟨t1_, 1, none⟩ (.int .i64 t2)).heap[t1_]? = some (.cells #[(.int .i64 t1), (.int .i64 t2)] 34 (0, 0))) := Aside0.mk (blk_put (blk_put HF.out 0 (.int .i64 t1) rfl) 1 (.int .i64 t2) rfl)
  replace HB := Aside0.mk (below_set (j := 1) (v := (.int .i64 t2)) (below_set (j := 0) (v := (.int .i64 t1)) HB.out (show w.heap.size ≤ t1_ by omega)) (show w.heap.size ≤ t1_ by omega))
  generalize ((w3).setCell ⟨t1_, 0, none⟩ (.int .i64 t1)).setCell ⟨t1_, 1, none⟩ (.int .i64 t2) = X4 at *
  refine region_till 2 (fun _ => True) (fun w' : World => w'.cell? ⟨t1_, 0, none⟩ = some (.int .i64 t1) ∧ w'.cell? ⟨t1_, 1, none⟩ = some (.int .i64 t2)) (by kernel_rfl) ⟨trivial, ⟨bc0 (blk_drew HF.out) 0, bc0 (blk_drew HF.out) 1⟩⟩ (fun hTU => ?_)
  replace HA := Aside0.mk (blk_drew HA.out)
  replace HL := Aside0.mk (blk_drew HL.out)
  replace HR := Aside0.mk (blk_drew HR.out)
  replace HF := Aside0.mk (blk_drew HF.out)
  replace HB := Aside0.mk (below_drew1 HB.out)
  generalize X4.drew = XE at *
  refine till_take (i := 0) (v := ?_) rfl (by kernel_rfl) (by kernel_rfl) (by kernel_rfl) (by kernel_rfl) (fun _ _ _ h => h) (Or.inl ⟨by rfl, ?_⟩) (by assumption) ?_
  rotate_left
  · (intro w_ hS_; (try dsimp only at hS_); go_simp; try with_reducible rfl)
  try simp only [Act.put, List.setIfInBounds_toArray, List.set_cons_zero, List.set_cons_succ]
  refine till_take (i := 1) (v := ?_) rfl (by kernel_rfl) (by kernel_rfl) (by kernel_rfl) (by kernel_rfl) (fun _ _ _ h => h) (Or.inl ⟨by rfl, ?_⟩) (by assumption) ?_
  rotate_left
  · (intro w_ hS_; (try dsimp only at hS_); go_simp; try with_reducible rfl)
  try simp only [Act.put, List.setIfInBounds_toArray, List.set_cons_zero, List.set_cons_succ]
  have kHR := bc0 HR.out
  have fHR := bf0 HR.out
  have yHR := blk_lt HR.out
  refine till_one (i := 2) (by kernel_rfl) rfl (fun K hK => ?_)
  go_simp
  refine hK.out _ _ trivial (fun _ h => absurd rfl h) (fun _ => ?_)
  clear hK K hTU
  refine till_done (by kernel_rfl) ?_ _
  go_wp2
  refine bodyPost_ret (results_tc rfl _ _ (w.heap.size + 1 + 1) 34 #[.int .i64 t1, .int .i64 t2] (0, 0) _ rfl (by (with_reducible repeat (first | refine blk_drewN ?_ _ | refine blk_drew ?_ | refine blk_alloc ?_ _)); refine blk_put (cs := #[.int .i64 t1, .int .i64 0]) ?_ 1 _ rfl; (with_reducible repeat (first | refine blk_drewN ?_ _ | refine blk_drew ?_ | refine blk_alloc ?_ _)); refine blk_put (cs := #[.int .i64 0, .int .i64 0]) ?_ 0 _ rfl; (with_reducible repeat (first | refine blk_drewN ?_ _ | refine blk_drew ?_ | refine blk_alloc ?_ _)); exact HR.out) Tryd.underlying34 rfl (by kernel_rfl)) rfl ⟨_, rfl, Kd.R_nil _ _ _ _ _, (by repeat (first | exact HB.out | (with_reducible apply below_alloc) | (with_reducible apply pw_below_drewN) | (with_reducible refine below_set ?_ (show w.heap.size ≤ w.heap.size + 1 + 1 by omega))))⟩
attribute [local go_sem high] eqFault
set_option maxHeartbeats 4000000 in
set_option maxRecDepth 100000 in
theorem Excess_c (k : Nat) (a0 a1 a2 : Int) (A3 : Option Addr) (d3 : Nat) (l3 : List (S68)) (A4 : Option Addr) (d4 : Nat) (l4 : List (S72)) (m0 m1 : Int) (s1 s2 : Int) (r : List Int) (w : World) (hr3 : Kd.C k68 w A3 l3.length l3) (hd3 : l3.length ≤ d3) (hr4 : Kd.C k72 w A4 l4.length l4) (hd4 : l4.length ≤ d4) (ht : mailbox_Validate.f k a0 a1 a2 l3 l4 = some (0, 0)) (hl : quota_limit.f m0 m1 = some (0, 0)) (hs : quota_sum.f k [(⟨a0, a1, a2, l3, l4⟩ : S25)] = some (s1, s2)) (he : excessFrom k m0 m1 l3 s1 s2 [] = some r) :
    Calls Tryd.prog 10 #[.agg #[.int .i64 a0, .int .i64 a1, .int .i64 a2, .slice A3 l3.length d3, .slice A4 l4.length d4], .agg #[.int .i64 m0, .int .i64 m1]] w fun e w' => ∃ v0_ : Value, e = .returned (.tuple #[v0_, .agg #[.int .i64 0, .int .i64 0]]) ∧ Kd.R (Kd.int .i64) 3 w' w.heap.size (fun k_ => (w.heap.size ≤ k_)) v0_ r ∧ Below w.heap.size w w' := by
  have HLI := Aside0.mk hl
  have HS := Aside0.mk hs
  have HE0 := Aside0.mk he
  clear hl hs he
  have HR3 := Aside0.mk hr3
  clear hr3
  have HR4 := Aside0.mk hr4
  clear hr4
  have HT := Aside0.mk ht
  clear ht
  have hu := Tryd.underlying25
  have hu2 := Tryd.underlying37
  have hu3 := Tryd.underlying68
  have HB := Aside0.mk (below_alloc (below_alloc (below_alloc (Below.refl w.heap.size w) (.cells #[.int .i64 a0, .int .i64 a1, .int .i64 a2, .slice A3 l3.length d3, .slice A4 l4.length d4] 25)) (.cells #[.int .i64 m0, .int .i64 m1] 27)) (.cells #[.int .i64 0, .int .i64 0] 34))
  have HA := Aside0.mk (blk_later (blk_later (blk_at (w := w) (.cells #[.int .i64 a0, .int .i64 a1, .int .i64 a2, .slice A3 l3.length d3, .slice A4 l4.length d4] 25)) (.cells #[.int .i64 m0, .int .i64 m1] 27)) (.cells #[.int .i64 0, .int .i64 0] 34))
  have HL := Aside0.mk (blk_later (blk_at1 (w := w) (.cells #[.int .i64 a0, .int .i64 a1, .int .i64 a2, .slice A3 l3.length d3, .slice A4 l4.length d4] 25) (.cells #[.int .i64 m0, .int .i64 m1] 27)) (.cells #[.int .i64 0, .int .i64 0] 34))
  have HR := Aside0.mk (blk_at2 (w := w) (.cells #[.int .i64 a0, .int .i64 a1, .int .i64 a2, .slice A3 l3.length d3, .slice A4 l4.length d4] 25) (.cells #[.int .i64 m0, .int .i64 m1] 27) (.cells #[.int .i64 0, .int .i64 0] 34))
  go_enter Tryd.func10, Tryd.ntmps10
  go_wp2_with fail
  refine (mailbox_Validate.calls k a0 a1 a2 A3 d3 l3 A4 d4 l4 0 0 _ (Kd.C_below HR3.out HB.out) hd3 (Kd.C_below HR4.out HB.out) hd4 HT.out).mono ?_
  rintro e w1 ⟨rfl, hb⟩
  replace HA := Aside0.mk (blk_call HA.out hb)
  replace HL := Aside0.mk (blk_call HL.out hb)
  replace HR := Aside0.mk (blk_call HR.out hb)
  replace HB := Aside0.mk (below_step HB.out hb)
  clear hb
  have kHL := bc0 HL.out
  have mHL := bc1 HL.out
  have fHL := bf0 HL.out
  have pHL := bf1 HL.out
  have yHL := blk_lt HL.out
  go_wp2_with fail
  clear kHL mHL fHL pHL yHL
  have l1_t1 := blk_lt HA.out
  have l2_t1 := blk_lt HL.out
  have l3_t1 := blk_lt HR.out
  replace HA := Aside0.mk (blk_later HA.out (.cells #[.int .i64 0, .int .i64 0] 34))
  replace HL := Aside0.mk (blk_later HL.out (.cells #[.int .i64 0, .int .i64 0] 34))
  replace HR := Aside0.mk (blk_later HR.out (.cells #[.int .i64 0, .int .i64 0] 34))
  replace HB := Aside0.mk (below_alloc HB.out (.cells #[.int .i64 0, .int .i64 0] 34))
  have HF := Aside0.mk (blk_at (w := w1) (.cells #[.int .i64 0, .int .i64 0] 34))
  have hs1 : (w1.alloc (.cells #[.int .i64 0, .int .i64 0] 34)).heap.size = w1.heap.size + 1 := by simp
  generalize w1.alloc (.cells #[.int .i64 0, .int .i64 0] 34) = X2 at *
  generalize w1.heap.size = t1_ at *
  refine (quota_limit.calls m0 m1 0 0 _ HLI.out).mono ?_
  rintro e w3 ⟨rfl, hb⟩
  replace HA := Aside0.mk (blk_call HA.out hb)
  replace HL := Aside0.mk (blk_call HL.out hb)
  replace HR := Aside0.mk (blk_call HR.out hb)
  replace HF := Aside0.mk (blk_call HF.out hb)
  replace HB := Aside0.mk (below_step HB.out hb)
  clear hb
  have kHF := bc0 HF.out
  have mHF := bc1 HF.out
  have fHF := bf0 HF.out
  have pHF := bf1 HF.out
  have yHF := blk_lt HF.out
  have kHA := bc0 HA.out
  have mHA := bc1 HA.out
  have fHA := bf0 HA.out
  have pHA := bf1 HA.out
  have yHA := blk_lt HA.out
  have ne1 := eq_false (show ¬ (w.heap.size = t1_) by omega)
  have ne2 := eq_false (show ¬ (t1_ = w.heap.size) by omega)
  go_wp2_with fail
  clear kHF mHF fHF pHF yHF kHA mHA fHA pHA yHA
  replace HA := Aside0.mk (blk_far (p := ⟨t1_, 1, none⟩) (blk_far (p := ⟨t1_, 0, none⟩) HA.out (show w.heap.size ≠ t1_ by omega) (.int .i64 0)) (show w.heap.size ≠ t1_ by omega) (.int .i64 0))
  replace HL := Aside0.mk (blk_far (p := ⟨t1_, 1, none⟩) (blk_far (p := ⟨t1_, 0, none⟩) HL.out (show w.heap.size + 1 ≠ t1_ by omega) (.int .i64 0)) (show w.heap.size + 1 ≠ t1_ by omega) (.int .i64 0))
  replace HR := Aside0.mk (blk_far (p := ⟨t1_, 1, none⟩) (blk_far (p := ⟨t1_, 0, none⟩) HR.out (show w.heap.size + 1 + 1 ≠ t1_ by omega) (.int .i64 0)) (show w.heap.size + 1 + 1 ≠ t1_ by omega) (.int .i64 0))
  replace HF : Aside0 ((((w3).setCell ⟨t1_, 0, none⟩ (.int .i64 0)).setCell ⟨t1_, 1, none⟩ (.int .i64 0)).heap[t1_]? = some (.cells #[(.int .i64 0), (.int .i64 0)] 34 (0, 0))) := Aside0.mk (blk_put (blk_put HF.out 0 (.int .i64 0) rfl) 1 (.int .i64 0) rfl)
  replace HB := Aside0.mk (below_set (j := 1) (v := (.int .i64 0)) (below_set (j := 0) (v := (.int .i64 0)) HB.out (show w.heap.size ≤ t1_ by omega)) (show w.heap.size ≤ t1_ by omega))
  have hp4 : (((w3).setCell ⟨t1_, 0, none⟩ (.int .i64 0)).setCell ⟨t1_, 1, none⟩ (.int .i64 0)).heap.size = w3.heap.size := by simp
  generalize ((w3).setCell ⟨t1_, 0, none⟩ (.int .i64 0)).setCell ⟨t1_, 1, none⟩ (.int .i64 0) = X4 at *
  have l4_q4 := blk_lt HA.out
  have l5_q4 := blk_lt HL.out
  have l6_q4 := blk_lt HR.out
  have l7_q4 := blk_lt HF.out
  replace HA := Aside0.mk (blk_later HA.out (.cells #[.int .i64 a0, .int .i64 a1, .int .i64 a2, .slice A3 l3.length d3, .slice A4 l4.length d4] 25))
  replace HL := Aside0.mk (blk_later HL.out (.cells #[.int .i64 a0, .int .i64 a1, .int .i64 a2, .slice A3 l3.length d3, .slice A4 l4.length d4] 25))
  replace HR := Aside0.mk (blk_later HR.out (.cells #[.int .i64 a0, .int .i64 a1, .int .i64 a2, .slice A3 l3.length d3, .slice A4 l4.length d4] 25))
  replace HF := Aside0.mk (blk_later HF.out (.cells #[.int .i64 a0, .int .i64 a1, .int .i64 a2, .slice A3 l3.length d3, .slice A4 l4.length d4] 25))
  replace HB := Aside0.mk (below_alloc HB.out (.cells #[.int .i64 a0, .int .i64 a1, .int .i64 a2, .slice A3 l3.length d3, .slice A4 l4.length d4] 25))
  have HQ := Aside0.mk (blk_at (w := X4) (.cells #[.int .i64 a0, .int .i64 a1, .int .i64 a2, .slice A3 l3.length d3, .slice A4 l4.length d4] 25))
  rw [hp4] at HQ l4_q4 l5_q4 l6_q4 l7_q4
  clear hp4
  generalize X4.alloc (.cells #[.int .i64 a0, .int .i64 a1, .int .i64 a2, .slice A3 l3.length d3, .slice A4 l4.length d4] 25) = X5 at *
  generalize w3.heap.size = q4 at *
  refine (quota_sum.calls k (some ⟨q4, 0, none⟩) 1 [(⟨a0, a1, a2, l3, l4⟩ : S25)] s1 s2 _ (C_one HQ.out rfl rfl (k25_mk _ (⟨a0, a1, a2, l3, l4⟩ : S25) hd3 (Kd.C_below HR3.out HB.out) hd4 (Kd.C_below HR4.out HB.out))) (Nat.le_refl _) HS.out).mono ?_
  rintro e w6 ⟨rfl, hb⟩
  replace HA := Aside0.mk (blk_call HA.out hb)
  replace HL := Aside0.mk (blk_call HL.out hb)
  replace HR := Aside0.mk (blk_call HR.out hb)
  replace HF := Aside0.mk (blk_call HF.out hb)
  replace HQ := Aside0.mk (blk_call HQ.out hb)
  replace HB := Aside0.mk (below_step HB.out hb)
  clear hb
  clear HQ
  have kHA := bc0 HA.out
  have mHA := bc1 HA.out
  have fHA := bf0 HA.out
  have pHA := bf1 HA.out
  have yHA := blk_lt HA.out
  go_wp2_with fail
  clear kHA mHA fHA pHA yHA
  clear ne1 ne2
  have l8_t5 := blk_lt HA.out
  have l9_t5 := blk_lt HL.out
  have l10_t5 := blk_lt HR.out
  have l11_t5 := blk_lt HF.out
  replace HA := Aside0.mk (blk_later HA.out (.cells #[.int .i64 s1, .int .i64 s2] 27))
  replace HL := Aside0.mk (blk_later HL.out (.cells #[.int .i64 s1, .int .i64 s2] 27))
  replace HR := Aside0.mk (blk_later HR.out (.cells #[.int .i64 s1, .int .i64 s2] 27))
  replace HF := Aside0.mk (blk_later HF.out (.cells #[.int .i64 s1, .int .i64 s2] 27))
  replace HB := Aside0.mk (below_alloc HB.out (.cells #[.int .i64 s1, .int .i64 s2] 27))
  have HU := Aside0.mk (blk_at (w := w6) (.cells #[.int .i64 s1, .int .i64 s2] 27))
  have hs5 : (w6.alloc (.cells #[.int .i64 s1, .int .i64 s2] 27)).heap.size = w6.heap.size + 1 := by simp
  generalize w6.alloc (.cells #[.int .i64 s1, .int .i64 s2] 27) = X7 at *
  generalize w6.heap.size = t5 at *
  have dt1 := blk_lt HF.out
  have dw := below_size HB.out
  have d1 : w.heap.size + 1 + 1 < t1_ := by omega
  have d5 : t1_ < t5 := by omega
  clear dt1 dw
  go_loopg [8, 28] l3.length (fun gg v8 v28 W => ∃ (i : Nat) (u v : Int) (out : List Int), i ≤ l3.length ∧ l3.length - i ≤ gg ∧ v28 = .int .i64 i ∧ Aside0 (excessFrom k m0 m1 (l3.drop i) u v out = some r) ∧ Aside0 (Kd.R (Kd.int .i64) 3 W w.heap.size (fun k_ => w.heap.size ≤ k_ ∧ k_ ≠ w.heap.size ∧ k_ ≠ w.heap.size + 1 ∧ k_ ≠ w.heap.size + 1 + 1 ∧ k_ ≠ t1_ ∧ k_ ≠ t5) v8 out) ∧ Aside0 (W.heap[w.heap.size]? = some (.cells #[.int .i64 a0, .int .i64 a1, .int .i64 a2, .slice A3 l3.length d3, .slice A4 l4.length d4] 25 (0, 0))) ∧ Aside0 (W.heap[w.heap.size + 1]? = some (.cells #[.int .i64 m0, .int .i64 m1] 27 (0, 0))) ∧ Aside0 (W.heap[w.heap.size + 1 + 1]? = some (.cells #[.int .i64 0, .int .i64 0] 34 (0, 0))) ∧ Aside0 (W.heap[t1_]? = some (.cells #[.int .i64 0, .int .i64 0] 34 (0, 0))) ∧ Aside0 (W.heap[t5]? = some (.cells #[.int .i64 u, .int .i64 v] 27 (0, 0))) ∧ Aside0 (Below w.heap.size w W))
  case atStart => exact ⟨0, s1, s2, [], Nat.zero_le _, Nat.le_refl _, rfl, HE0, ⟨Kd.R_nil _ _ _ _ _⟩, HA, HL, HR, HF, HU, HB⟩
  case round =>
  clear HA HL HR HF HU HB HE0
  obtain ⟨i, u, v, out, hi, hg, rfl, HE, HO, HA, HL, HR, HF, HU, HB⟩ := hrel
  by_cases hlt : i < l3.length
  · skip
    have hdr : l3.drop i = rd_T68 l3 (i : Int) :: l3.drop (i + 1) := by rw [rd_T68, Int.toNat_natCast, List.getD_eq_getElem?_getD, List.getElem?_eq_getElem hlt]; exact List.drop_eq_getElem_cons hlt
    have HE1 := HE.out
    clear HE
    rw [hdr] at HE1
    simp only [excessFrom] at HE1
    clear hdr
    have hl63 := HR3.out.2.1
    obtain ⟨ad, A4', c4, A5, c5, hA3, q0, q1, q2, q3, q4', q5, l4', g4, l5, g5⟩ := at_T68 HR3.out (i : Int) (by omega) (by omega)
    cases hA3
    generalize rd_T68 l3 (i : Int) = x at *
    rw [Int.toNat_natCast] at q0 q1 q2 q3 q4' q5
    replace q0 := (HB.out.cell (World.block_lt_of_cell? w _ q0)).trans q0
    replace q1 := (HB.out.cell (World.block_lt_of_cell? w _ q1)).trans q1
    replace q2 := (HB.out.cell (World.block_lt_of_cell? w _ q2)).trans q2
    replace q3 := (HB.out.cell (World.block_lt_of_cell? w _ q3)).trans q3
    replace q4' := (HB.out.cell (World.block_lt_of_cell? w _ q4')).trans q4'
    replace q5 := (HB.out.cell (World.block_lt_of_cell? w _ q5)).trans q5
    have i0 : decide ((i : Int) < (l3.length : Int)) = true := decide_eq_true (by omega)
    have i1 : decide (0 ≤ (i : Int)) = true := decide_eq_true (by omega)
    have G4 := Aside0.mk g4
    have G5 := Aside0.mk g5
    clear g4 g5
    by_cases hc : u ≤ m0 ∧ v ≤ m1
    · rw [if_pos hc] at HE1
      obtain rfl := Option.some.inj HE1
      have c1 : decide (u ≤ m0) = true := decide_eq_true hc.1
      have c2 : decide (v ≤ m1) = true := decide_eq_true hc.2
      clear hc HE1
      have kHL := bc0 HL.out
      have mHL := bc1 HL.out
      have fHL := bf0 HL.out
      have pHL := bf1 HL.out
      have yHL := blk_lt HL.out
      have kHU := bc0 HU.out
      have mHU := bc1 HU.out
      have fHU := bf0 HU.out
      have pHU := bf1 HU.out
      have yHU := blk_lt HU.out
      go_wp2_with fail
      clear kHL mHL fHL pHL yHL kHU mHU fHU pHU yHU
      replace HO := Aside0.mk (Kd.R_alloc HO.out (.cells #[.int .i64 x.f0, .int .i64 x.f1, .int .i64 x.f2, .int .i64 x.f3, .slice A4' x.f4.f0.length c4, .slice A5 x.f4.f1.length c5] 68))
      have l1_gx := blk_lt HA.out
      have l2_gx := blk_lt HL.out
      have l3_gx := blk_lt HR.out
      have l4_gx := blk_lt HF.out
      have l5_gx := blk_lt HU.out
      replace HA := Aside0.mk (blk_later HA.out (.cells #[.int .i64 x.f0, .int .i64 x.f1, .int .i64 x.f2, .int .i64 x.f3, .slice A4' x.f4.f0.length c4, .slice A5 x.f4.f1.length c5] 68))
      replace HL := Aside0.mk (blk_later HL.out (.cells #[.int .i64 x.f0, .int .i64 x.f1, .int .i64 x.f2, .int .i64 x.f3, .slice A4' x.f4.f0.length c4, .slice A5 x.f4.f1.length c5] 68))
      replace HR := Aside0.mk (blk_later HR.out (.cells #[.int .i64 x.f0, .int .i64 x.f1, .int .i64 x.f2, .int .i64 x.f3, .slice A4' x.f4.f0.length c4, .slice A5 x.f4.f1.length c5] 68))
      replace HF := Aside0.mk (blk_later HF.out (.cells #[.int .i64 x.f0, .int .i64 x.f1, .int .i64 x.f2, .int .i64 x.f3, .slice A4' x.f4.f0.length c4, .slice A5 x.f4.f1.length c5] 68))
      replace HU := Aside0.mk (blk_later HU.out (.cells #[.int .i64 x.f0, .int .i64 x.f1, .int .i64 x.f2, .int .i64 x.f3, .slice A4' x.f4.f0.length c4, .slice A5 x.f4.f1.length c5] 68))
      replace HB := Aside0.mk (below_alloc HB.out (.cells #[.int .i64 x.f0, .int .i64 x.f1, .int .i64 x.f2, .int .i64 x.f3, .slice A4' x.f4.f0.length c4, .slice A5 x.f4.f1.length c5] 68))
      have HX := Aside0.mk (blk_at (w := wr) (.cells #[.int .i64 x.f0, .int .i64 x.f1, .int .i64 x.f2, .int .i64 x.f3, .slice A4' x.f4.f0.length c4, .slice A5 x.f4.f1.length c5] 68))
      have hsx : (wr.alloc (.cells #[.int .i64 x.f0, .int .i64 x.f1, .int .i64 x.f2, .int .i64 x.f3, .slice A4' x.f4.f0.length c4, .slice A5 x.f4.f1.length c5] 68)).heap.size = wr.heap.size + 1 := by simp
      generalize wr.alloc (.cells #[.int .i64 x.f0, .int .i64 x.f1, .int .i64 x.f2, .int .i64 x.f3, .slice A4' x.f4.f0.length c4, .slice A5 x.f4.f1.length c5] 68) = W8 at *
      generalize wr.heap.size = gx at *
      refine region_till 3 (fun _ => True) (fun w' : World => w'.cell? ⟨t1_, 0, none⟩ = some (.int .i64 0) ∧ w'.cell? ⟨t1_, 1, none⟩ = some (.int .i64 0)) (by kernel_rfl) ⟨trivial, ⟨bc0 (blk_drew HF.out) 0, bc0 (blk_drew HF.out) 1⟩⟩ (fun hTU => ?_)
      replace HA := Aside0.mk (blk_drew HA.out)
      replace HL := Aside0.mk (blk_drew HL.out)
      replace HR := Aside0.mk (blk_drew HR.out)
      replace HF := Aside0.mk (blk_drew HF.out)
      replace HU := Aside0.mk (blk_drew HU.out)
      replace HX := Aside0.mk (blk_drew HX.out)
      replace HB := Aside0.mk (below_drew1 HB.out)
      replace HO := Aside0.mk (Kd.R_drew HO.out)
      generalize W8.drew = XE at *
      refine till_take (i := 0) (v := ?_) rfl (by kernel_rfl) (by kernel_rfl) (by kernel_rfl) (by kernel_rfl) (fun _ _ _ h => h) (Or.inl ⟨by rfl, ?_⟩) (by assumption) ?_
      rotate_left
      · (intro w_ hS_; (try dsimp only at hS_); go_simp; try with_reducible rfl)
      try simp only [Act.put, List.setIfInBounds_toArray, List.set_cons_zero, List.set_cons_succ]
      refine till_take (i := 1) (v := ?_) rfl (by kernel_rfl) (by kernel_rfl) (by kernel_rfl) (by kernel_rfl) (fun _ _ _ h => h) (Or.inl ⟨by rfl, ?_⟩) (by assumption) ?_
      rotate_left
      · (intro w_ hS_; (try dsimp only at hS_); go_simp; try with_reducible rfl)
      try simp only [Act.put, List.setIfInBounds_toArray, List.set_cons_zero, List.set_cons_succ]
      refine till_take (i := 2) (v := ?_) rfl (by kernel_rfl) (by kernel_rfl) (by kernel_rfl) (by kernel_rfl) (fun _ _ _ h => h) (Or.inl ⟨by rfl, ?_⟩) (by assumption) ?_
      rotate_left
      · (intro w_ hS_; (try dsimp only at hS_); go_simp; try with_reducible rfl)
      try simp only [Act.put, List.setIfInBounds_toArray, List.set_cons_zero, List.set_cons_succ]
      have kHR := bc0 HR.out
      have fHR := bf0 HR.out
      have yHR := blk_lt HR.out
      refine till_one (i := 3) (by kernel_rfl) rfl (fun K hK => ?_)
      go_simp
      refine hK.out _ _ trivial (fun _ h => absurd rfl h) (fun _ => ?_)
      clear hK K hTU
      refine till_done (by kernel_rfl) ?_ _
      go_wp2
      refine bodyPost_ret (results_tc rfl _ _ (w.heap.size + 1 + 1) 34 #[.int .i64 0, .int .i64 0] (0, 0) _ rfl (by (with_reducible repeat (first | refine blk_drewN ?_ _ | refine blk_drew ?_ | refine blk_alloc ?_ _)); refine blk_put (cs := #[.int .i64 0, .int .i64 0]) ?_ 1 _ rfl; (with_reducible repeat (first | refine blk_drewN ?_ _ | refine blk_drew ?_ | refine blk_alloc ?_ _)); refine blk_put (cs := #[.int .i64 0, .int .i64 0]) ?_ 0 _ rfl; (with_reducible repeat (first | refine blk_drewN ?_ _ | refine blk_drew ?_ | refine blk_alloc ?_ _)); exact HR.out) Tryd.underlying34 rfl (by kernel_rfl)) rfl ⟨_, rfl, Kd.R_mono (Kd.R_far (p := ⟨w.heap.size + 1 + 1, 1, none⟩) (Kd.R_far (p := ⟨w.heap.size + 1 + 1, 0, none⟩) HO.out (fun k_ hk_ => hk_.2.2.2.1) _) (fun k_ hk_ => hk_.2.2.2.1) _) (fun k_ hk_ => hk_.1), (by repeat (first | exact HB.out | (with_reducible apply below_alloc) | (with_reducible apply pw_below_drewN) | (with_reducible refine below_set ?_ (show w.heap.size ≤ w.heap.size + 1 + 1 by omega))))⟩
    · rw [if_neg hc] at HE1
      split at HE1
      case isFalse => cases HE1
      case isTrue hol =>
      obtain ⟨sz, hsz, HE1⟩ := Option.bind_eq_some_iff.1 HE1
      obtain ⟨u', hu'⟩ : ∃ u', IntKind.i64.wrap (u - sz) = u' := ⟨_, rfl⟩
      obtain ⟨v', hv'⟩ : ∃ v', IntKind.i64.wrap (v - 1) = v' := ⟨_, rfl⟩
      rw [(i64_w _).symm.trans hu', (i64_w _).symm.trans hv'] at HE1
      have HE2 := Aside0.mk HE1
      have HSZ := Aside0.mk hsz
      clear HE1 hsz
      have INFO := Aside0.mk (show (Tryd.prog.info? 3).map (fun i => (i.zero, i.size, i.bytes)) = some (some (.int .i64 0), 1, 8) from by kernel_rfl)
      have hu6 := Tryd.underlying45
      have hcc : (decide (u ≤ m0) = true ∧ decide (v ≤ m1) = false) ∨ decide (u ≤ m0) = false := by
        by_cases h1 : u ≤ m0
        · exact .inl ⟨decide_eq_true h1, decide_eq_false (fun h2 => hc ⟨h1, h2⟩)⟩
        · exact .inr (decide_eq_false h1)
      clear hc
      have yU := blk_lt HU.out
      rcases hcc with ⟨c1, c2⟩ | c1
      all_goals
        have kHL := bc0 HL.out
        have mHL := bc1 HL.out
        have fHL := bf0 HL.out
        have pHL := bf1 HL.out
        have yHL := blk_lt HL.out
        have kHU := bc0 HU.out
        have mHU := bc1 HU.out
        have fHU := bf0 HU.out
        have pHU := bf1 HU.out
        have yHU := blk_lt HU.out
        go_wp2_with (first | (at_builtin; refine Kd.R_append_row (Value.int .i64) (0 : Int) (h1 := fun _ => rfl) (w0 := w) w.heap.size rfl (.tmp 44) (.tmp 47) 45 3 (.int .i64 0) 8 rfl hu6 INFO.out rfl (by decide) u8 out [x.f0] (some ⟨wr.heap.size + 1, 0, none⟩) 1 1 (fun k_ => w.heap.size ≤ k_ ∧ k_ ≠ w.heap.size ∧ k_ ≠ w.heap.size + 1 ∧ k_ ≠ w.heap.size + 1 + 1 ∧ k_ ≠ t1_ ∧ k_ ≠ t5) rfl rfl (fun k_ hk_ => by have h9 := hk_; simp only [World.size_alloc] at h9; refine ⟨?_, ?_, ?_, ?_, ?_, ?_⟩ <;> omega) (Kd.R_alloc (Kd.R_alloc HO.out _) _) (C_one (blk_at1 _ _) rfl rfl rfl) (below_alloc (below_alloc HB.out _) _) (by have h9 := below_size HB.out; simp only [World.size_alloc]; omega) (by simp only [Nat.add_mul]; omega) ?_; intro v1 w8 ho hb8 hg8 hat))
        clear kHL mHL fHL pHL yHL kHU mHU fHU pHU yHU
        have HX : Aside0 (w8.heap[wr.heap.size]? = some (.cells #[.int .i64 x.f0, .int .i64 x.f1, .int .i64 x.f2, .int .i64 x.f3, .slice A4' x.f4.f0.length c4, .slice A5 x.f4.f1.length c5] 68 (0, 0))) := Aside0.mk ((hg8.block wr.heap.size (by simp only [World.size_alloc]; omega) (fun e => by have h9 := ((Kd.own_of_R (h1 := fun _ => rfl) HO.out).lt _ e.symm).2; omega)).trans (blk_later (blk_at (.cells #[.int .i64 x.f0, .int .i64 x.f1, .int .i64 x.f2, .int .i64 x.f3, .slice A4' x.f4.f0.length c4, .slice A5 x.f4.f1.length c5] 68)) _))
        replace HA := Aside0.mk ((hg8.block (w.heap.size) (by simp only [World.size_alloc]; omega) (fun e => (HO.out.1 _ e.symm).2.1 rfl)).trans (blk_later (blk_later HA.out _) _))
        replace HL := Aside0.mk ((hg8.block (w.heap.size + 1) (by simp only [World.size_alloc]; omega) (fun e => (HO.out.1 _ e.symm).2.2.1 rfl)).trans (blk_later (blk_later HL.out _) _))
        replace HR := Aside0.mk ((hg8.block (w.heap.size + 1 + 1) (by simp only [World.size_alloc]; omega) (fun e => (HO.out.1 _ e.symm).2.2.2.1 rfl)).trans (blk_later (blk_later HR.out _) _))
        replace HF := Aside0.mk ((hg8.block (t1_) (by simp only [World.size_alloc]; omega) (fun e => (HO.out.1 _ e.symm).2.2.2.2.1 rfl)).trans (blk_later (blk_later HF.out _) _))
        replace HU := Aside0.mk ((hg8.block (t5) (by simp only [World.size_alloc]; omega) (fun e => (HO.out.1 _ e.symm).2.2.2.2.2 rfl)).trans (blk_later (blk_later HU.out _) _))
        replace HO := Aside0.mk ho
        replace HB := Aside0.mk hb8
        clear ho hb8 hg8 hat q0 q1 q2 q3 q4' q5
        generalize wr.heap.size = gx at *
        refine region_till 7 (fun _ => True) (fun w' : World => w'.cell? ⟨t5, 0, none⟩ = some (.int .i64 u) ∧ w'.cell? ⟨gx, 4, none⟩ = some (.slice A4' x.f4.f0.length c4) ∧ w'.cell? ⟨gx, 5, none⟩ = some (.slice A5 x.f4.f1.length c5)) (by kernel_rfl) ⟨trivial, ⟨bc0 (blk_drew HU.out) 0, bc0 (blk_drew HX.out) 4, bc0 (blk_drew HX.out) 5⟩⟩ (fun hTU => ?_)
        replace HA := Aside0.mk (blk_drew HA.out)
        replace HL := Aside0.mk (blk_drew HL.out)
        replace HR := Aside0.mk (blk_drew HR.out)
        replace HF := Aside0.mk (blk_drew HF.out)
        replace HU := Aside0.mk (blk_drew HU.out)
        replace HX := Aside0.mk (blk_drew HX.out)
        replace HB := Aside0.mk (below_drew1 HB.out)
        replace HO := Aside0.mk (Kd.R_drew HO.out)
        generalize w8.drew = W9 at *
        refine till_take (i := 0) (v := ?_) rfl (by kernel_rfl) (by kernel_rfl) (by kernel_rfl) (by kernel_rfl) (fun _ _ _ h => h) (Or.inl ⟨by rfl, ?_⟩) (by assumption) ?_
        rotate_left
        · (intro w_ hS_; (try dsimp only at hS_); go_simp; try with_reducible rfl)
        try simp only [Act.put, List.setIfInBounds_toArray, List.set_cons_zero, List.set_cons_succ]
        refine till_take (i := 1) (v := ?_) rfl (by kernel_rfl) (by kernel_rfl) (by kernel_rfl) (by kernel_rfl) (fun _ _ _ h => h) (Or.inl ⟨by rfl, ?_⟩) (by assumption) ?_
        rotate_left
        · (intro w_ hS_; (try dsimp only at hS_); go_simp; try with_reducible rfl)
        try simp only [Act.put, List.setIfInBounds_toArray, List.set_cons_zero, List.set_cons_succ]
        refine till_take (i := 2) (v := ?_) rfl (by kernel_rfl) (by kernel_rfl) (by kernel_rfl) (by kernel_rfl) (fun _ _ _ h => h) (Or.inl ⟨by rfl, ?_⟩) (by assumption) ?_
        rotate_left
        · (intro w_ hS_; (try dsimp only at hS_); go_simp; try with_reducible rfl)
        try simp only [Act.put, List.setIfInBounds_toArray, List.set_cons_zero, List.set_cons_succ]
        refine till_take (i := 3) (v := ?_) rfl (by kernel_rfl) (by kernel_rfl) (by kernel_rfl) (by kernel_rfl) (fun _ _ _ h => h) (Or.inl ⟨by rfl, ?_⟩) (by assumption) ?_
        rotate_left
        · (intro w_ hS_; (try dsimp only at hS_); go_simp; try with_reducible rfl)
        try simp only [Act.put, List.setIfInBounds_toArray, List.set_cons_zero, List.set_cons_succ]
        refine till_one (i := 4) (by kernel_rfl) rfl (fun K hK => ?_)
        go_simp
        go_at_call 20
        refine (quota_Size.calls k A4' c4 x.f4.f0 A5 c5 x.f4.f1 sz _ (Kd.C_below G4.out HB.out) l4' (Kd.C_below G5.out HB.out) l5 HSZ.out).mono ?_
        rintro e w10 ⟨rfl, hb⟩
        replace HO := Aside0.mk (Kd.R_below HO.out hb)
        replace HA := Aside0.mk (blk_call HA.out hb)
        replace HL := Aside0.mk (blk_call HL.out hb)
        replace HR := Aside0.mk (blk_call HR.out hb)
        replace HF := Aside0.mk (blk_call HF.out hb)
        replace HU := Aside0.mk (blk_call HU.out hb)
        replace HX := Aside0.mk (blk_call HX.out hb)
        replace HB := Aside0.mk (below_step HB.out hb)
        clear hb
        refine hK.out _ _ trivial (fun _ _ => ⟨bc0 HU.out 0, bc0 HX.out 4, bc0 HX.out 5⟩) (fun hTV => ?_)
        clear hK K hTU
        have hTU := hTV (by kernel_rfl) (by decide)
        clear hTV
        try simp only [Act.put, List.setIfInBounds_toArray, List.set_cons_zero, List.set_cons_succ]
        refine till_take (i := 5) (v := ?_) rfl (by kernel_rfl) (by kernel_rfl) (by kernel_rfl) (by kernel_rfl) (fun _ _ _ h => h) (Or.inl ⟨by rfl, ?_⟩) (by assumption) ?_
        rotate_left
        · (intro w_ hS_; (try dsimp only at hS_); go_simp; try with_reducible rfl)
        try simp only [Act.put, List.setIfInBounds_toArray, List.set_cons_zero, List.set_cons_succ]
        refine till_take (i := 6) (v := ?_) rfl (by kernel_rfl) (by kernel_rfl) (by kernel_rfl) (by kernel_rfl) (fun _ _ _ h => h) (Or.inl ⟨by rfl, ?_⟩) (by assumption) ?_
        rotate_left
        · (intro w_ hS_; (try dsimp only at hS_); go_simp; try with_reducible rfl)
        try simp only [Act.put, List.setIfInBounds_toArray, List.set_cons_zero, List.set_cons_succ]
        have kHU := bc0 HU.out
        have fHU := bf0 HU.out
        have yHU := blk_lt HU.out
        refine till_one (i := 7) (by kernel_rfl) rfl (fun K hK => ?_)
        go_simp
        refine hK.out _ _ trivial (fun _ h => absurd rfl h) (fun _ => ?_)
        clear hK K hTU
        refine till_done (by kernel_rfl) ?_ _
        go_wp2_with fail
        clear kHU fHU yHU
        clear HX
        replace HO := Aside0.mk (Kd.R_far (p := ⟨t5, 1, none⟩) (Kd.R_far (p := ⟨t5, 0, none⟩) HO.out (fun k_ hk_ => hk_.2.2.2.2.2) (.int .i64 u')) (fun k_ hk_ => hk_.2.2.2.2.2) (.int .i64 v'))
        replace HA := Aside0.mk (blk_far (p := ⟨t5, 1, none⟩) (blk_far (p := ⟨t5, 0, none⟩) HA.out (show w.heap.size ≠ t5 by omega) (.int .i64 u')) (show w.heap.size ≠ t5 by omega) (.int .i64 v'))
        replace HL := Aside0.mk (blk_far (p := ⟨t5, 1, none⟩) (blk_far (p := ⟨t5, 0, none⟩) HL.out (show w.heap.size + 1 ≠ t5 by omega) (.int .i64 u')) (show w.heap.size + 1 ≠ t5 by omega) (.int .i64 v'))
        replace HR := Aside0.mk (blk_far (p := ⟨t5, 1, none⟩) (blk_far (p := ⟨t5, 0, none⟩) HR.out (show w.heap.size + 1 + 1 ≠ t5 by omega) (.int .i64 u')) (show w.heap.size + 1 + 1 ≠ t5 by omega) (.int .i64 v'))
        replace HF := Aside0.mk (blk_far (p := ⟨t5, 1, none⟩) (blk_far (p := ⟨t5, 0, none⟩) HF.out (show t1_ ≠ t5 by omega) (.int .i64 u')) (show t1_ ≠ t5 by omega) (.int .i64 v'))
        replace HU := Aside0.mk (blk_put (blk_put HU.out 0 (.int .i64 u') rfl) 1 (.int .i64 v') rfl)
        replace HB := Aside0.mk (below_set (j := 1) (v := (.int .i64 v')) (below_set (j := 0) (v := (.int .i64 u')) HB.out (show w.heap.size ≤ t5 by omega)) (show w.heap.size ≤ t5 by omega))
        go_roundg (l3.length - (i + 1))
        case measure => omega
        case rel => exact ⟨i + 1, u', v', out ++ [x.f0], by omega, by omega, by go_num, HE2, HO, HA, HL, HR, HF, HU, HB⟩
  · obtain rfl : i = l3.length := by omega
    have HE1 := HE.out
    clear HE
    rw [List.drop_length] at HE1
    simp only [excessFrom] at HE1
    obtain rfl := Option.some.inj HE1
    clear HE1
    have i0 : decide ((l3.length : Int) < (l3.length : Int)) = false := decide_eq_false (by omega)
    go_wp2_with fail
    refine region_till 3 (fun _ => True) (fun w' : World => w'.cell? ⟨t1_, 0, none⟩ = some (.int .i64 0) ∧ w'.cell? ⟨t1_, 1, none⟩ = some (.int .i64 0)) (by kernel_rfl) ⟨trivial, ⟨bc0 (blk_drew HF.out) 0, bc0 (blk_drew HF.out) 1⟩⟩ (fun hTU => ?_)
    replace HA := Aside0.mk (blk_drew HA.out)
    replace HL := Aside0.mk (blk_drew HL.out)
    replace HR := Aside0.mk (blk_drew HR.out)
    replace HF := Aside0.mk (blk_drew HF.out)
    replace HU := Aside0.mk (blk_drew HU.out)
    replace HB := Aside0.mk (below_drew1 HB.out)
    replace HO := Aside0.mk (Kd.R_drew HO.out)
    generalize wr.drew = XE at *
    refine till_take (i := 0) (v := ?_) rfl (by kernel_rfl) (by kernel_rfl) (by kernel_rfl) (by kernel_rfl) (fun _ _ _ h => h) (Or.inl ⟨by rfl, ?_⟩) (by assumption) ?_
    rotate_left
    · (intro w_ hS_; (try dsimp only at hS_); go_simp; try with_reducible rfl)
    try simp only [Act.put, List.setIfInBounds_toArray, List.set_cons_zero, List.set_cons_succ]
    refine till_take (i := 1) (v := ?_) rfl (by kernel_rfl) (by kernel_rfl) (by kernel_rfl) (by kernel_rfl) (fun _ _ _ h => h) (Or.inl ⟨by rfl, ?_⟩) (by assumption) ?_
    rotate_left
    · (intro w_ hS_; (try dsimp only at hS_); go_simp; try with_reducible rfl)
    try simp only [Act.put, List.setIfInBounds_toArray, List.set_cons_zero, List.set_cons_succ]
    refine till_take (i := 2) (v := ?_) rfl (by kernel_rfl) (by kernel_rfl) (by kernel_rfl) (by kernel_rfl) (fun _ _ _ h => h) (Or.inl ⟨by rfl, ?_⟩) (by assumption) ?_
    rotate_left
    · (intro w_ hS_; (try dsimp only at hS_); go_simp; try with_reducible rfl)
    try simp only [Act.put, List.setIfInBounds_toArray, List.set_cons_zero, List.set_cons_succ]
    have kHR := bc0 HR.out
    have fHR := bf0 HR.out
    have yHR := blk_lt HR.out
    refine till_one (i := 3) (by kernel_rfl) rfl (fun K hK => ?_)
    go_simp
    refine hK.out _ _ trivial (fun _ h => absurd rfl h) (fun _ => ?_)
    clear hK K hTU
    refine till_done (by kernel_rfl) ?_ _
    go_wp2
    refine bodyPost_ret (results_tc rfl _ _ (w.heap.size + 1 + 1) 34 #[.int .i64 0, .int .i64 0] (0, 0) _ rfl (by (with_reducible repeat (first | refine blk_drewN ?_ _ | refine blk_drew ?_ | refine blk_alloc ?_ _)); refine blk_put (cs := #[.int .i64 0, .int .i64 0]) ?_ 1 _ rfl; (with_reducible repeat (first | refine blk_drewN ?_ _ | refine blk_drew ?_ | refine blk_alloc ?_ _)); refine blk_put (cs := #[.int .i64 0, .int .i64 0]) ?_ 0 _ rfl; (with_reducible repeat (first | refine blk_drewN ?_ _ | refine blk_drew ?_ | refine blk_alloc ?_ _)); exact HR.out) Tryd.underlying34 rfl (by kernel_rfl)) rfl ⟨_, rfl, Kd.R_mono (Kd.R_far (p := ⟨w.heap.size + 1 + 1, 1, none⟩) (Kd.R_far (p := ⟨w.heap.size + 1 + 1, 0, none⟩) HO.out (fun k_ hk_ => hk_.2.2.2.1) _) (fun k_ hk_ => hk_.2.2.2.1) _) (fun k_ hk_ => hk_.1), (by repeat (first | exact HB.out | (with_reducible apply below_alloc) | (with_reducible apply pw_below_drewN) | (with_reducible refine below_set ?_ (show w.heap.size ≤ w.heap.size + 1 + 1 by omega))))⟩
theorem quota_Excess.calls (k : Nat) (a0 a1 a2 : Int) (A3 : Option Addr) (d3 : Nat) (l3 : List (S68)) (A4 : Option Addr) (d4 : Nat) (l4 : List (S72)) (m0 m1 : Int) (r1 : List Int) (r2 r3 : Int) (w : World) (hr3 : Kd.C k68 w A3 l3.length l3) (hd3 : l3.length ≤ d3) (hr4 : Kd.C k72 w A4 l4.length l4) (hd4 : l4.length ≤ d4) (h : quota_Excess.f k a0 a1 a2 l3 l4 m0 m1 = some (r1, r2, r3)) :
    Calls Tryd.prog 10 #[.agg #[.int .i64 a0, .int .i64 a1, .int .i64 a2, .slice A3 l3.length d3, .slice A4 l4.length d4], .agg #[.int .i64 m0, .int .i64 m1]] w fun e w' => ∃ v0_ : Value, e = .returned (.tuple #[v0_, .agg #[.int .i64 r2, .int .i64 r3]]) ∧ Kd.R (Kd.int .i64) 3 w' w.heap.size (fun k_ => (w.heap.size ≤ k_)) v0_ r1 ∧ Below w.heap.size w w' := by
  unfold quota_Excess.f at h
  have no : ∀ x y : Int, ¬ (x = 0 ∧ y = 0) → (x == 0 && (y == 0)) = false := fun x y hn => by
    cases h1 : (x == 0 && (y == 0)) with
    | false => rfl
    | true => exact absurd (by simpa using h1) hn
  obtain ⟨⟨t1, t2⟩, ht, h⟩ := Option.bind_eq_some_iff.1 h
  dsimp only at h
  by_cases b1 : t1 = 0 ∧ t2 = 0
  · rw [if_pos b1] at h
    obtain ⟨rfl, rfl⟩ := b1
    obtain ⟨⟨u1, u2⟩, hl, h⟩ := Option.bind_eq_some_iff.1 h
    dsimp only at h
    by_cases b2 : u1 = 0 ∧ u2 = 0
    · rw [if_pos b2] at h
      obtain ⟨rfl, rfl⟩ := b2
      obtain ⟨⟨s1, s2⟩, hs, h⟩ := Option.bind_eq_some_iff.1 h
      obtain ⟨r, he, h⟩ := Option.bind_eq_some_iff.1 h
      cases h
      exact Excess_c k a0 a1 a2 A3 d3 l3 A4 d4 l4 m0 m1 s1 s2 r1 w hr3 hd3 hr4 hd4 ht hl hs he
    · rw [if_neg b2] at h
      cases h
      exact Excess_b k a0 a1 a2 A3 d3 l3 A4 d4 l4 m0 m1 r2 r3 w hr3 hd3 hr4 hd4 ht hl (no _ _ b2)
  · rw [if_neg b1] at h
    cases h
    exact Excess_a k a0 a1 a2 A3 d3 l3 A4 d4 l4 m0 m1 r2 r3 w hr3 hd3 hr4 hd4 ht (no _ _ b1)


end Go.Proofs.YtbolikomoenmaaaDoor.P
