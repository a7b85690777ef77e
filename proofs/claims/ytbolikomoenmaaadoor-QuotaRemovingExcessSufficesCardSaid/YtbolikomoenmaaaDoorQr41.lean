/- Functions of this seat as Lean functions, and that the Go code comes to their answers: written by a program of this session's. -/
import Derived.Test.YtbolikomoenmaaaDoorQr28
import Derived.Test.YtbolikomoenmaaaDoorQr10
import Derived.Test.YtbolikomoenmaaaDoorQr19
import Derived.Test.YtbolikomoenmaaaDoorQr36
import Derived.Test.YtbolikomoenmaaaDoorQr23
import Derived.Test.YtbolikomoenmaaaDoorQr25
namespace Go.Proofs.YtbolikomoenmaaaDoor.P
open Go.RowKit Go.Proofs.YtbolikomoenmaaaDoorW.PrintWords Go.Proofs.YtbolikomoenmaaaDoorW.PrintLast Go.Proofs.YtbolikomoenmaaaDoorW.PrintMore
attribute [local go_sem] max2_int min2_int max_two min_two max_three min_three max_four min_four   -- for this text's walks alone
set_option linter.unusedVariables false
set_option linter.unusedSimpArgs false

/-! ### posthouselaw8_QuotaRemovingExcessSuffices: function 4 -/
/-- One removal behind the other. -/
def removeAll (k : Nat) : List Int → Int → Int → Int → List (S68) → List (S72) → Option (Int × Int × Int × List (S68) × List (S72))
  | [], c0, c1, c2, c3, c4 => some (c0, c1, c2, c3, c4)
  | u :: l, c0, c1, c2, c3, c4 => (mailbox_Apply.f k c0 c1 c2 c3 c4 3 u 0 0 0 [] []).bind fun r => if r.2.2.2.2.2.1 = 0 then removeAll k l r.1 r.2.1 r.2.2.1 r.2.2.2.1 r.2.2.2.2.1 else none
theorem grown_step {w W W' : World} {g : Nat} (h : w.grownBy W (some g)) (hb : Below W.heap.size W W') : w.grownBy W' (some g) :=
  ⟨hb.os.trans h.os, hb.tape.trans h.tape, hb.output.trans h.output, Nat.le_trans h.size hb.size, fun k hk hne => (hb.block k (Nat.lt_of_lt_of_le hk h.size)).trans (h.block k hk hne)⟩
theorem C_grown {α : Type} {d : Kd α} {e base g n c : Nat} {W4 W : World} {ok : Nat → Prop} {A : Option Addr} {xs : List α} (h : Kd.V d e W4 base ok (.slice A n c) xs) (hg : W4.grownBy W (some g)) (hok : ∀ k, ok k → k ≠ g) : d.C W A n xs :=
  (Kd.V_F h) W (fun k hk hlt => hg.block k hlt (fun e => hok k hk (Option.some.inj e)))
set_option maxHeartbeats 4000000 in
set_option maxRecDepth 100000 in
theorem Removing_a (k : Nat) (a0 a1 a2 : Int) (aA : Option Addr) (aa : Nat) (a3 : List (S68)) (aB : Option Addr) (ab : Nat) (a4 : List (S72)) (m0 m1 : Int) (out : List Int) (q q' : Int) (w : World) (ha3 : Kd.C k68 w aA a3.length a3) (ea3 : a3.length ≤ aa) (ha4 : Kd.C k72 w aB a4.length a4) (ea4 : a4.length ≤ ab) (hbx : ∀ w, Calls Tryd.prog 6 #[] w fun e w' => e = .returned (.bool true) ∧ Below w.heap.size w w') (f1 : quota_Excess.f k a0 a1 a2 a3 a4 m0 m1 = some (out, q, q')) (q1 : (q != 0) = true) (q2 : out = []) :
    Calls Tryd.prog 4 #[.agg #[.int .i64 a0, .int .i64 a1, .int .i64 a2, .slice aA a3.length aa, .slice aB a4.length ab], .agg #[.int .i64 m0, .int .i64 m1]] w fun e w' => e = .returned (.bool true) ∧ Below w.heap.size w w' := by
  have HA3 := Aside0.mk ha3
  have HA4 := Aside0.mk ha4
  have HBX := Aside0.mk hbx
  have F1 := Aside0.mk f1
  clear ha3 ha4 hbx f1
  have hu := Tryd.underlying25
  have hu2 := Tryd.underlying41
  have hfld := fieldFault_0
  have HB := Aside0.mk (below_alloc (below_alloc (Below.refl w.heap.size w) (.cells #[.int .i64 a0, .int .i64 a1, .int .i64 a2, .slice aA a3.length aa, .slice aB a4.length ab] 25)) (.cells #[.int .i64 m0, .int .i64 m1] 27))
  have HA := Aside0.mk (blk_later (blk_at (w := w) (.cells #[.int .i64 a0, .int .i64 a1, .int .i64 a2, .slice aA a3.length aa, .slice aB a4.length ab] 25)) (.cells #[.int .i64 m0, .int .i64 m1] 27))
  have HL := Aside0.mk (blk_at1 (w := w) (.cells #[.int .i64 a0, .int .i64 a1, .int .i64 a2, .slice aA a3.length aa, .slice aB a4.length ab] 25) (.cells #[.int .i64 m0, .int .i64 m1] 27))
  go_enter Tryd.func4, Tryd.ntmps4
  go_wp2_with fail
  refine (HBX.out _).mono ?_
  rintro e w1 ⟨rfl, hb⟩
  replace HA := Aside0.mk (blk_call HA.out hb)
  replace HL := Aside0.mk (blk_call HL.out hb)
  replace HB := Aside0.mk (below_step HB.out hb)
  clear hb
  have kHA := bc0 HA.out
  have mHA := bc1 HA.out
  have nHA := bc2 HA.out
  have fHA := bf0 HA.out
  have yHA := blk_lt HA.out
  have kHL := bc0 HL.out
  have mHL := bc1 HL.out
  have nHL := bc2 HL.out
  have fHL := bf0 HL.out
  have yHL := blk_lt HL.out
  go_wp2_with fail
  clear kHA mHA nHA fHA yHA kHL mHL nHL fHL yHL
  refine (quota_Excess.calls k a0 a1 a2 aA aa a3 aB ab a4 m0 m1 out q q' _ (Kd.C_below HA3.out HB.out) ea3 (Kd.C_below HA4.out HB.out) ea4 F1.out).mono ?_
  rintro e w2 ⟨v_, rfl, hv, hb⟩
  obtain ⟨lA, la, rfl⟩ := Kd.R_slice hv
  subst q2
  clear hv
  replace HA := Aside0.mk (blk_call HA.out hb)
  replace HL := Aside0.mk (blk_call HL.out hb)
  replace HB := Aside0.mk (below_step HB.out hb)
  clear hb
  have kHA := bc0 HA.out
  have mHA := bc1 HA.out
  have nHA := bc2 HA.out
  have fHA := bf0 HA.out
  have yHA := blk_lt HA.out
  have ln0 : ([] : List Int).length = 0 := rfl
  go_wp2
  go_ret
  exact ⟨rfl, below_alloc HB.out _⟩
set_option maxHeartbeats 4000000 in
set_option maxRecDepth 100000 in
theorem Removing_b (k : Nat) (a0 a1 a2 : Int) (aA : Option Addr) (aa : Nat) (a3 : List (S68)) (aB : Option Addr) (ab : Nat) (a4 : List (S72)) (m0 m1 : Int) (out : List Int) (q q' : Int) (w : World) (ha3 : Kd.C k68 w aA a3.length a3) (ea3 : a3.length ≤ aa) (ha4 : Kd.C k72 w aB a4.length a4) (ea4 : a4.length ≤ ab) (hbx : ∀ w, Calls Tryd.prog 6 #[] w fun e w' => e = .returned (.bool true) ∧ Below w.heap.size w w') (f1 : quota_Excess.f k a0 a1 a2 a3 a4 m0 m1 = some (out, q, q')) (q1 : (q != 0) = false) (q2 : (q == 0) = true) (q3 : decide (900000 < a1) = true) :
    Calls Tryd.prog 4 #[.agg #[.int .i64 a0, .int .i64 a1, .int .i64 a2, .slice aA a3.length aa, .slice aB a4.length ab], .agg #[.int .i64 m0, .int .i64 m1]] w fun e w' => e = .returned (.bool true) ∧ Below w.heap.size w w' := by
  have HA3 := Aside0.mk ha3
  have HA4 := Aside0.mk ha4
  have HBX := Aside0.mk hbx
  have F1 := Aside0.mk f1
  clear ha3 ha4 hbx f1
  have hu := Tryd.underlying25
  have hu2 := Tryd.underlying41
  have hfld := fieldFault_0
  have HB := Aside0.mk (below_alloc (below_alloc (Below.refl w.heap.size w) (.cells #[.int .i64 a0, .int .i64 a1, .int .i64 a2, .slice aA a3.length aa, .slice aB a4.length ab] 25)) (.cells #[.int .i64 m0, .int .i64 m1] 27))
  have HA := Aside0.mk (blk_later (blk_at (w := w) (.cells #[.int .i64 a0, .int .i64 a1, .int .i64 a2, .slice aA a3.length aa, .slice aB a4.length ab] 25)) (.cells #[.int .i64 m0, .int .i64 m1] 27))
  have HL := Aside0.mk (blk_at1 (w := w) (.cells #[.int .i64 a0, .int .i64 a1, .int .i64 a2, .slice aA a3.length aa, .slice aB a4.length ab] 25) (.cells #[.int .i64 m0, .int .i64 m1] 27))
  go_enter Tryd.func4, Tryd.ntmps4
  go_wp2_with fail
  refine (HBX.out _).mono ?_
  rintro e w1 ⟨rfl, hb⟩
  replace HA := Aside0.mk (blk_call HA.out hb)
  replace HL := Aside0.mk (blk_call HL.out hb)
  replace HB := Aside0.mk (below_step HB.out hb)
  clear hb
  have kHA := bc0 HA.out
  have mHA := bc1 HA.out
  have nHA := bc2 HA.out
  have fHA := bf0 HA.out
  have yHA := blk_lt HA.out
  have kHL := bc0 HL.out
  have mHL := bc1 HL.out
  have nHL := bc2 HL.out
  have fHL := bf0 HL.out
  have yHL := blk_lt HL.out
  go_wp2_with fail
  clear kHA mHA nHA fHA yHA kHL mHL nHL fHL yHL
  refine (quota_Excess.calls k a0 a1 a2 aA aa a3 aB ab a4 m0 m1 out q q' _ (Kd.C_below HA3.out HB.out) ea3 (Kd.C_below HA4.out HB.out) ea4 F1.out).mono ?_
  rintro e w2 ⟨v_, rfl, hv, hb⟩
  obtain ⟨lA, la, rfl⟩ := Kd.R_slice hv
  clear hv
  replace HA := Aside0.mk (blk_call HA.out hb)
  replace HL := Aside0.mk (blk_call HL.out hb)
  replace HB := Aside0.mk (below_step HB.out hb)
  clear hb
  have kHA := bc0 HA.out
  have mHA := bc1 HA.out
  have nHA := bc2 HA.out
  have fHA := bf0 HA.out
  have yHA := blk_lt HA.out
  by_cases ln0 : out.length = 0
  all_goals
    go_wp2
    go_ret
    exact ⟨rfl, below_alloc HB.out _⟩
set_option maxHeartbeats 4000000 in
set_option maxRecDepth 100000 in
theorem Removing_c (k : Nat) (a0 a1 a2 : Int) (aA : Option Addr) (aa : Nat) (a3 : List (S68)) (aB : Option Addr) (ab : Nat) (a4 : List (S72)) (m0 m1 : Int) (out : List Int) (q q' : Int) (w : World) (ha3 : Kd.C k68 w aA a3.length a3) (ea3 : a3.length ≤ aa) (ha4 : Kd.C k72 w aB a4.length a4) (ea4 : a4.length ≤ ab) (hbx : ∀ w, Calls Tryd.prog 6 #[] w fun e w' => e = .returned (.bool true) ∧ Below w.heap.size w w') (f1 : quota_Excess.f k a0 a1 a2 a3 a4 m0 m1 = some (out, q, q')) (n0 n1 n2 : Int) (n3 : List (S68)) (n4 : List (S72)) (z : Int) (q1 : (q != 0) = false) (q3 : decide (900000 < a1) = false) (g1 : removeAll k out a0 a1 a2 a3 a4 = some (n0, n1, n2, n3, n4)) (g2 : quota_Excess.f k n0 n1 n2 n3 n4 m0 m1 = some ([], 0, z)) :
    Calls Tryd.prog 4 #[.agg #[.int .i64 a0, .int .i64 a1, .int .i64 a2, .slice aA a3.length aa, .slice aB a4.length ab], .agg #[.int .i64 m0, .int .i64 m1]] w fun e w' => e = .returned (.bool true) ∧ Below w.heap.size w w' := by
  have HA3 := Aside0.mk ha3
  have HA4 := Aside0.mk ha4
  have HBX := Aside0.mk hbx
  have F1 := Aside0.mk f1
  have G1 := Aside0.mk g1
  have G2 := Aside0.mk g2
  clear ha3 ha4 hbx f1 g1 g2
  have hu := Tryd.underlying25
  have hu2 := Tryd.underlying41
  have hfld := fieldFault_0
  have HB := Aside0.mk (below_alloc (below_alloc (Below.refl w.heap.size w) (.cells #[.int .i64 a0, .int .i64 a1, .int .i64 a2, .slice aA a3.length aa, .slice aB a4.length ab] 25)) (.cells #[.int .i64 m0, .int .i64 m1] 27))
  have HA := Aside0.mk (blk_later (blk_at (w := w) (.cells #[.int .i64 a0, .int .i64 a1, .int .i64 a2, .slice aA a3.length aa, .slice aB a4.length ab] 25)) (.cells #[.int .i64 m0, .int .i64 m1] 27))
  have HL := Aside0.mk (blk_at1 (w := w) (.cells #[.int .i64 a0, .int .i64 a1, .int .i64 a2, .slice aA a3.length aa, .slice aB a4.length ab] 25) (.cells #[.int .i64 m0, .int .i64 m1] 27))
  go_enter Tryd.func4, Tryd.ntmps4
  go_wp2_with fail
  refine (HBX.out _).mono ?_
  rintro e w1 ⟨rfl, hb⟩
  replace HA := Aside0.mk (blk_call HA.out hb)
  replace HL := Aside0.mk (blk_call HL.out hb)
  replace HB := Aside0.mk (below_step HB.out hb)
  clear hb
  have kHA := bc0 HA.out
  have mHA := bc1 HA.out
  have nHA := bc2 HA.out
  have fHA := bf0 HA.out
  have yHA := blk_lt HA.out
  have kHL := bc0 HL.out
  have mHL := bc1 HL.out
  have nHL := bc2 HL.out
  have fHL := bf0 HL.out
  have yHL := blk_lt HL.out
  go_wp2_with fail
  clear kHA mHA nHA fHA yHA kHL mHL nHL fHL yHL
  refine (quota_Excess.calls k a0 a1 a2 aA aa a3 aB ab a4 m0 m1 out q q' _ (Kd.C_below HA3.out HB.out) ea3 (Kd.C_below HA4.out HB.out) ea4 F1.out).mono ?_
  rintro e w2 ⟨v_, rfl, hv, hb⟩
  obtain ⟨lA, la, rfl⟩ := Kd.R_slice hv
  have HlV := Aside0.mk (Kd.R_V (base' := 0) hv)
  have hlw := blk_lt HA.out
  clear hv
  replace HA := Aside0.mk (blk_call HA.out hb)
  replace HL := Aside0.mk (blk_call HL.out hb)
  replace HB := Aside0.mk (below_step HB.out hb)
  clear hb
  have kHA := bc0 HA.out
  have mHA := bc1 HA.out
  have nHA := bc2 HA.out
  have fHA := bf0 HA.out
  have yHA := blk_lt HA.out
  go_wp2_with fail
  clear kHA mHA nHA fHA yHA
  have l1_t2 := blk_lt HA.out
  have l2_t2 := blk_lt HL.out
  replace HA := Aside0.mk (blk_later HA.out (.cells #[.int .i64 q, .int .i64 q'] 34))
  replace HL := Aside0.mk (blk_later HL.out (.cells #[.int .i64 q, .int .i64 q'] 34))
  replace HlV := Aside0.mk (Kd.V_alloc HlV.out (.cells #[.int .i64 q, .int .i64 q'] 34))
  replace HB := Aside0.mk (below_alloc HB.out (.cells #[.int .i64 q, .int .i64 q'] 34))
  have HE := Aside0.mk (blk_at (w := w2) (.cells #[.int .i64 q, .int .i64 q'] 34))
  have hs2 : (w2.alloc (.cells #[.int .i64 q, .int .i64 q'] 34)).heap.size = w2.heap.size + 1 := by simp
  generalize w2.alloc (.cells #[.int .i64 q, .int .i64 q'] 34) = W4 at *
  generalize w2.heap.size = t2 at *
  clear HE
  have HG0 : Aside0 (W4.grownBy W4 (some w.heap.size)) := ⟨⟨rfl, rfl, rfl, Nat.le_refl _, fun _ _ _ => rfl⟩⟩
  have HC3 := Aside0.mk (Kd.C_below HA3.out HB.out)
  have HC4 := Aside0.mk (Kd.C_below HA4.out HB.out)
  go_loopg [7] out.length (fun gg v7 W => ∃ (i : Nat) (c0 c1 c2 : Int) (cA : Option Addr) (ca : Nat) (c3 : List (S68)) (cB : Option Addr) (cb : Nat) (c4 : List (S72)), i ≤ out.length ∧ out.length - i ≤ gg ∧ v7 = .int .i64 i ∧ Aside0 (removeAll k (out.drop i) c0 c1 c2 c3 c4 = some (n0, n1, n2, n3, n4)) ∧ Aside0 (W.heap[w.heap.size]? = some (.cells #[.int .i64 c0, .int .i64 c1, .int .i64 c2, .slice cA c3.length ca, .slice cB c4.length cb] 25 (0, 0))) ∧ Aside0 (W.heap[w.heap.size + 1]? = some (.cells #[.int .i64 m0, .int .i64 m1] 27 (0, 0))) ∧ Aside0 (Kd.C k68 W cA c3.length c3) ∧ c3.length ≤ ca ∧ Aside0 (Kd.C k72 W cB c4.length c4) ∧ c4.length ≤ cb ∧ Aside0 (W4.grownBy W (some w.heap.size)) ∧ Aside0 (Below w.heap.size w W))
  case atStart => exact ⟨0, a0, a1, a2, aA, aa, a3, aB, ab, a4, Nat.zero_le _, Nat.le_refl _, rfl, G1, HA, HL, HC3, ea3, HC4, ea4, HG0, HB⟩
  case round =>
  clear HA HL HB HG0 HC3 HC4 G1
  obtain ⟨i, c0, c1, c2, cA, ca, c3, cB, cb, c4, hi, hg, rfl, HE, HA, HL, HC3, ec3, HC4, ec4, HG, HB⟩ := hrel
  have HlC := Aside0.mk (C_grown HlV.out HG.out (fun k_ hk_ => by omega))
  have hl63 := HlC.out.2.1
  by_cases hlt : i < out.length
  · skip
    have hdr : out.drop i = rd out (i : Int) :: out.drop (i + 1) := by rw [rd, Int.toNat_natCast, List.getD_eq_getElem?_getD, List.getElem?_eq_getElem hlt]; exact List.drop_eq_getElem_cons hlt
    have HE1 := HE.out
    clear HE
    rw [hdr] at HE1
    simp only [removeAll] at HE1
    clear hdr
    obtain ⟨⟨r0, r1, r2, r3, r4, s5, s6⟩, hap, hstep⟩ := Option.bind_eq_some_iff.1 HE1
    clear HE1
    dsimp only at hstep
    split at hstep
    case isFalse => cases hstep
    case isTrue hs5 =>
    subst hs5
    obtain ⟨ad, hlA, q0⟩ := Kd.at_int HlC.out (i : Int) (by omega) (by omega)
    cases hlA
    rw [Int.toNat_natCast] at q0
    generalize rd out (i : Int) = x at *
    have HE2 := Aside0.mk hstep
    have P1 := Aside0.mk hap
    clear hstep hap
    have Q0 := Aside0.mk q0
    clear q0
    have i0 : decide ((i : Int) < (out.length : Int)) = true := decide_eq_true (by omega)
    have i1 : decide (0 ≤ (i : Int)) = true := decide_eq_true (by omega)
    have HD := Aside0.mk (Below.refl wr.heap.size wr)
    have yA := blk_lt HA.out
    have yL := blk_lt HL.out
    have hadl := World.block_lt_of_cell? _ _ Q0.out
    go_wp2_with fail
    refine region_till 13 (fun _ => True) (fun w' : World => w'.cell? ⟨w.heap.size, 0, none⟩ = some (.int .i64 c0) ∧ w'.cell? ⟨w.heap.size, 1, none⟩ = some (.int .i64 c1) ∧ w'.cell? ⟨w.heap.size, 2, none⟩ = some (.int .i64 c2) ∧ w'.cell? ⟨w.heap.size, 3, none⟩ = some (.slice cA c3.length ca) ∧ w'.cell? ⟨w.heap.size, 4, none⟩ = some (.slice cB c4.length cb) ∧ w'.cell? (ad.add i) = some (.int .i64 x)) (by kernel_rfl) ⟨trivial, ⟨bc0 (blk_drew HA.out) 0, bc0 (blk_drew HA.out) 1, bc0 (blk_drew HA.out) 2, bc0 (blk_drew HA.out) 3, bc0 (blk_drew HA.out) 4, Q0.out⟩⟩ (fun hTU => ?_)
    replace HA := Aside0.mk (blk_drew HA.out)
    replace HL := Aside0.mk (blk_drew HL.out)
    replace HD := Aside0.mk (below_drew1 HD.out)
    have hwd : wr.drew.heap.size = wr.heap.size := rfl
    generalize wr.drew = V0 at *
    refine till_take (i := 0) (v := ?_) rfl (by kernel_rfl) (by kernel_rfl) (by kernel_rfl) (by kernel_rfl) (fun _ _ _ h => h) (Or.inl ⟨by rfl, ?_⟩) (by assumption) ?_
    rotate_left
    · (intro w_ hS_; (try dsimp only at hS_); go_simp; try with_reducible rfl)
    try simp only [Act.put, List.setIfInBounds_toArray, List.set_cons_zero, List.set_cons_succ]
    refine till_take (i := 1) (v := ?_) rfl (by kernel_rfl) (by kernel_rfl) (by kernel_rfl) (by kernel_rfl) (fun _ _ _ h => h) (Or.inl ⟨by rfl, ?_⟩) (by assumption) ?_
    rotate_left
    · (intro w_ hS_; (try dsimp only at hS_); go_simp; try with_reducible rfl)
    try simp only [Act.put, List.setIfInBounds_toArray, List.set_cons_zero, List.set_cons_succ]
    refine till_take (i := 2) (v := ?_) rfl (by kernel_rfl) (by kernel_rfl) (by kernel_rfl) (by kernel_rfl) (fun _ _ _ h => h) (Or.inl ⟨by rfl, ?_⟩) (by assumption) ?_
    rotate_left
    · (intro w_ hS_; (try dsimp only at hS_); go_simp; try with_reducible rfl)
    try simp only [Act.put, List.setIfInBounds_toArray, List.set_cons_zero, List.set_cons_succ]
    refine till_take (i := 3) (v := ?_) rfl (by kernel_rfl) (by kernel_rfl) (by kernel_rfl) (by kernel_rfl) (fun _ _ _ h => h) (Or.inl ⟨by rfl, ?_⟩) (by assumption) ?_
    rotate_left
    · (intro w_ hS_; (try dsimp only at hS_); go_simp; try with_reducible rfl)
    try simp only [Act.put, List.setIfInBounds_toArray, List.set_cons_zero, List.set_cons_succ]
    refine till_take (i := 4) (v := ?_) rfl (by kernel_rfl) (by kernel_rfl) (by kernel_rfl) (by kernel_rfl) (fun _ _ _ h => h) (Or.inl ⟨by rfl, ?_⟩) (by assumption) ?_
    rotate_left
    · (intro w_ hS_; (try dsimp only at hS_); go_simp; try with_reducible rfl)
    try simp only [Act.put, List.setIfInBounds_toArray, List.set_cons_zero, List.set_cons_succ]
    refine till_take (i := 5) (v := ?_) rfl (by kernel_rfl) (by kernel_rfl) (by kernel_rfl) (by kernel_rfl) (fun _ _ _ h => h) (Or.inl ⟨by rfl, ?_⟩) (by assumption) ?_
    rotate_left
    · (intro w_ hS_; (try dsimp only at hS_); go_simp; try with_reducible rfl)
    try simp only [Act.put, List.setIfInBounds_toArray, List.set_cons_zero, List.set_cons_succ]
    refine till_ready (rs := [6, 10, 11]) (by kernel_rfl) (by simp) ?_
    refine each_cons rfl (fun K hK => ?_) (each_cons rfl (fun K hK => ?_) (each_cons rfl (fun K hK => ?_) (each_nil)))
    · skip
      go_simp
      have hd6 := below_size HD.out
      have l1_cc := blk_lt HA.out
      have l2_cc := blk_lt HL.out
      go_at_call 8
      refine (mailbox_Apply.calls k c0 c1 c2 cA ca c3 cB cb c4 3 x 0 0 0 none 0 [] none 0 [] r0 r1 r2 r3 r4 0 s6 _ (Kd.C_below HC3.out HD.out) ec3 (Kd.C_below HC4.out HD.out) ec4 (Kd.C_nil k70 _) (Nat.le_refl _) (Kd.C_nil (Kd.int .u8) _) (Nat.le_refl _) P1.out).mono ?_
      rintro e V06 ⟨v3_, v4_, rfl, hv3_, hv4_, hb⟩
      obtain ⟨rA, ra, rfl⟩ := Kd.V_slice hv3_
      obtain ⟨rB, rb, rfl⟩ := Kd.V_slice hv4_
      have HrV := Aside0.mk hv3_
      have HrW := Aside0.mk hv4_
      clear hv3_ hv4_
      have hsz := below_size hb
      replace HA := Aside0.mk (blk_call HA.out hb)
      replace HL := Aside0.mk (blk_call HL.out hb)
      replace HD := Aside0.mk (below_step HD.out hb)
      clear hb
      refine hK.out _ _ trivial (fun _ _ => ⟨bc0 HA.out 0, bc0 HA.out 1, bc0 HA.out 2, bc0 HA.out 3, bc0 HA.out 4, (HD.out.cell hadl).trans Q0.out⟩) (fun hTV => ?_)
      clear hK K hTU
      have hTU := hTV (by kernel_rfl) (by decide)
      clear hTV
      try simp only [Act.put, List.setIfInBounds_toArray, List.set_cons_zero, List.set_cons_succ]
      refine till_free (i := 7) (v := ?_) rfl (by decide) (by kernel_rfl) (by kernel_rfl) (by kernel_rfl) (fun _ _ _ h => h) (Or.inl ⟨by rfl, ?_⟩) ⟨hTU.1, fun _ => hTU.2⟩ ?_
      rotate_left
      · (intro w_ _; go_simp; try with_reducible rfl)
      try simp only [Act.put, List.setIfInBounds_toArray, List.set_cons_zero, List.set_cons_succ]
      refine till_free (i := 8) (v := ?_) rfl (by decide) (by kernel_rfl) (by kernel_rfl) (by kernel_rfl) (fun _ _ _ h => h) (Or.inl ⟨by rfl, ?_⟩) ⟨hTU.1, fun _ => hTU.2⟩ ?_
      rotate_left
      · (intro w_ _; go_simp; try with_reducible rfl)
      try simp only [Act.put, List.setIfInBounds_toArray, List.set_cons_zero, List.set_cons_succ]
      refine till_free (i := 9) (v := ?_) rfl (by decide) (by kernel_rfl) (by kernel_rfl) (by kernel_rfl) (fun _ _ _ h => h) (Or.inl ⟨by rfl, ?_⟩) ⟨hTU.1, fun _ => hTU.2⟩ ?_
      rotate_left
      · (intro w_ _; go_simp; try with_reducible rfl)
      try simp only [Act.put, List.setIfInBounds_toArray, List.set_cons_zero, List.set_cons_succ]
      refine till_ready (rs := [10, 11]) (by kernel_rfl) (by simp) ?_
      refine each_cons rfl (fun K hK => ?_) (each_cons rfl (fun K hK => ?_) (each_nil))
      · skip
        go_simp
        have hd10 := below_size HD.out
        have hle1 := Nat.le_succ V06.heap.size
        replace HrV := Aside0.mk (Kd.V_mono (ok' := fun k_ => V0.heap.size ≤ k_ ∧ k_ ≠ V06.heap.size ∧ k_ ≠ V06.heap.size + 1) (Kd.V_elderB (Kd.V_elderB HrV.out V06.heap.size (Nat.le_refl _)) (V06.heap.size + 1) (Nat.le_succ _)) (fun k_ hk_ => ⟨hk_.1.1, hk_.1.2, hk_.2⟩))
        replace HrW := Aside0.mk (Kd.V_mono (ok' := fun k_ => V0.heap.size ≤ k_ ∧ k_ ≠ V06.heap.size ∧ k_ ≠ V06.heap.size + 1) (Kd.V_elderB (Kd.V_elderB HrW.out V06.heap.size (Nat.le_refl _)) (V06.heap.size + 1) (Nat.le_succ _)) (fun k_ hk_ => ⟨hk_.1.1, hk_.1.2, hk_.2⟩))
        have l3_g10 := blk_lt HA.out
        have l4_g10 := blk_lt HL.out
        replace HA := Aside0.mk (blk_later HA.out (.cells #[.int .i64 0, .int .i64 0, .int .i64 0, .slice none 0 0, .slice none 0 0] 25))
        replace HL := Aside0.mk (blk_later HL.out (.cells #[.int .i64 0, .int .i64 0, .int .i64 0, .slice none 0 0, .slice none 0 0] 25))
        replace HrV := Aside0.mk (Kd.V_alloc HrV.out (.cells #[.int .i64 0, .int .i64 0, .int .i64 0, .slice none 0 0, .slice none 0 0] 25))
        replace HrW := Aside0.mk (Kd.V_alloc HrW.out (.cells #[.int .i64 0, .int .i64 0, .int .i64 0, .slice none 0 0, .slice none 0 0] 25))
        replace HD := Aside0.mk (below_alloc HD.out (.cells #[.int .i64 0, .int .i64 0, .int .i64 0, .slice none 0 0, .slice none 0 0] 25))
        have HM := Aside0.mk (blk_at (w := V06) (.cells #[.int .i64 0, .int .i64 0, .int .i64 0, .slice none 0 0, .slice none 0 0] 25))
        have hs10 : (V06.alloc (.cells #[.int .i64 0, .int .i64 0, .int .i64 0, .slice none 0 0, .slice none 0 0] 25)).heap.size = V06.heap.size + 1 := by simp
        generalize V06.alloc (.cells #[.int .i64 0, .int .i64 0, .int .i64 0, .slice none 0 0, .slice none 0 0] 25) = V0610 at *
        generalize V06.heap.size = g10 at *
        refine hK.out _ _ trivial (fun _ _ => ⟨bc0 HA.out 0, bc0 HA.out 1, bc0 HA.out 2, bc0 HA.out 3, bc0 HA.out 4, (HD.out.cell hadl).trans Q0.out⟩) (fun hTV => ?_)
        clear hK K hTU
        have hTU := hTV (by kernel_rfl) (by decide)
        clear hTV
        try simp only [Act.put, List.setIfInBounds_toArray, List.set_cons_zero, List.set_cons_succ]
        refine till_one (i := 11) (by kernel_rfl) rfl (fun K hK => ?_)
        go_simp
        have hd11 := below_size HD.out
        have l5_g101 := blk_lt HA.out
        have l6_g101 := blk_lt HL.out
        have l7_g101 := blk_lt HM.out
        replace HA := Aside0.mk (blk_later HA.out (.cells #[.int .i64 0, .int .i64 0] 34))
        replace HL := Aside0.mk (blk_later HL.out (.cells #[.int .i64 0, .int .i64 0] 34))
        replace HM := Aside0.mk (blk_later HM.out (.cells #[.int .i64 0, .int .i64 0] 34))
        replace HrV := Aside0.mk (Kd.V_alloc HrV.out (.cells #[.int .i64 0, .int .i64 0] 34))
        replace HrW := Aside0.mk (Kd.V_alloc HrW.out (.cells #[.int .i64 0, .int .i64 0] 34))
        replace HD := Aside0.mk (below_alloc HD.out (.cells #[.int .i64 0, .int .i64 0] 34))
        have HF := Aside0.mk (blk_at (w := V0610) (.cells #[.int .i64 0, .int .i64 0] 34))
        rw [hs10] at HF l5_g101 l6_g101 l7_g101
        clear hs10
        generalize V0610.alloc (.cells #[.int .i64 0, .int .i64 0] 34) = V061011 at *
        refine hK.out _ _ trivial (fun _ _ => ⟨bc0 HA.out 0, bc0 HA.out 1, bc0 HA.out 2, bc0 HA.out 3, bc0 HA.out 4, (HD.out.cell hadl).trans Q0.out⟩) (fun hTV => ?_)
        clear hK K hTU
        have hTU := hTV (by kernel_rfl) (by decide)
        clear hTV
        try simp only [Act.put, List.setIfInBounds_toArray, List.set_cons_zero, List.set_cons_succ]
        refine till_one (i := 12) (by kernel_rfl) rfl (fun K hK => ?_)
        have kHM := bc0 HM.out
        have fHM := bf0 HM.out
        have yHM := blk_lt HM.out
        have kHF := bc0 HF.out
        have fHF := bf0 HF.out
        have yHF := blk_lt HF.out
        go_simp
        clear kHM fHM yHM kHF fHF yHF
        replace HA := Aside0.mk (blk_far (p := ⟨g10, 4, none⟩) (blk_far (p := ⟨g10, 3, none⟩) (blk_far (p := ⟨g10, 2, none⟩) (blk_far (p := ⟨g10, 1, none⟩) (blk_far (p := ⟨g10, 0, none⟩) HA.out (show w.heap.size ≠ g10 by omega) (.int .i64 r0)) (show w.heap.size ≠ g10 by omega) (.int .i64 r1)) (show w.heap.size ≠ g10 by omega) (.int .i64 r2)) (show w.heap.size ≠ g10 by omega) (.slice rA r3.length ra)) (show w.heap.size ≠ g10 by omega) (.slice rB r4.length rb))
        replace HL := Aside0.mk (blk_far (p := ⟨g10, 4, none⟩) (blk_far (p := ⟨g10, 3, none⟩) (blk_far (p := ⟨g10, 2, none⟩) (blk_far (p := ⟨g10, 1, none⟩) (blk_far (p := ⟨g10, 0, none⟩) HL.out (show w.heap.size + 1 ≠ g10 by omega) (.int .i64 r0)) (show w.heap.size + 1 ≠ g10 by omega) (.int .i64 r1)) (show w.heap.size + 1 ≠ g10 by omega) (.int .i64 r2)) (show w.heap.size + 1 ≠ g10 by omega) (.slice rA r3.length ra)) (show w.heap.size + 1 ≠ g10 by omega) (.slice rB r4.length rb))
        replace HM : Aside0 (((((((V061011).setCell ⟨g10, 0, none⟩ (.int .i64 r0)).setCell ⟨g10, 1, none⟩ (.int .i64 r1)).setCell ⟨g10, 2, none⟩ (.int .i64 r2)).setCell ⟨g10, 3, none⟩ (.slice rA r3.length ra)).setCell ⟨g10, 4, none⟩ (.slice rB r4.length rb)).heap[g10]? = some (.cells #[(.int .i64 r0), (.int .i64 r1), (.int .i64 r2), (.slice rA r3.length ra), (.slice rB r4.length rb)] 25 (0, 0))) := Aside0.mk (blk_put (blk_put (blk_put (blk_put (blk_put HM.out 0 (.int .i64 r0) rfl) 1 (.int .i64 r1) rfl) 2 (.int .i64 r2) rfl) 3 (.slice rA r3.length ra) rfl) 4 (.slice rB r4.length rb) rfl)
        replace HF := Aside0.mk (blk_far (p := ⟨g10, 4, none⟩) (blk_far (p := ⟨g10, 3, none⟩) (blk_far (p := ⟨g10, 2, none⟩) (blk_far (p := ⟨g10, 1, none⟩) (blk_far (p := ⟨g10, 0, none⟩) HF.out (show g10 + 1 ≠ g10 by omega) (.int .i64 r0)) (show g10 + 1 ≠ g10 by omega) (.int .i64 r1)) (show g10 + 1 ≠ g10 by omega) (.int .i64 r2)) (show g10 + 1 ≠ g10 by omega) (.slice rA r3.length ra)) (show g10 + 1 ≠ g10 by omega) (.slice rB r4.length rb))
        replace HrV := Aside0.mk (Kd.V_far (p := ⟨g10, 4, none⟩) (Kd.V_far (p := ⟨g10, 3, none⟩) (Kd.V_far (p := ⟨g10, 2, none⟩) (Kd.V_far (p := ⟨g10, 1, none⟩) (Kd.V_far (p := ⟨g10, 0, none⟩) HrV.out (fun k_ (hk_ : V0.heap.size ≤ k_ ∧ k_ ≠ g10 ∧ k_ ≠ g10 + 1) => by show k_ ≠ g10; omega) (.int .i64 r0)) (fun k_ (hk_ : V0.heap.size ≤ k_ ∧ k_ ≠ g10 ∧ k_ ≠ g10 + 1) => by show k_ ≠ g10; omega) (.int .i64 r1)) (fun k_ (hk_ : V0.heap.size ≤ k_ ∧ k_ ≠ g10 ∧ k_ ≠ g10 + 1) => by show k_ ≠ g10; omega) (.int .i64 r2)) (fun k_ (hk_ : V0.heap.size ≤ k_ ∧ k_ ≠ g10 ∧ k_ ≠ g10 + 1) => by show k_ ≠ g10; omega) (.slice rA r3.length ra)) (fun k_ (hk_ : V0.heap.size ≤ k_ ∧ k_ ≠ g10 ∧ k_ ≠ g10 + 1) => by show k_ ≠ g10; omega) (.slice rB r4.length rb))
        replace HrW := Aside0.mk (Kd.V_far (p := ⟨g10, 4, none⟩) (Kd.V_far (p := ⟨g10, 3, none⟩) (Kd.V_far (p := ⟨g10, 2, none⟩) (Kd.V_far (p := ⟨g10, 1, none⟩) (Kd.V_far (p := ⟨g10, 0, none⟩) HrW.out (fun k_ (hk_ : V0.heap.size ≤ k_ ∧ k_ ≠ g10 ∧ k_ ≠ g10 + 1) => by show k_ ≠ g10; omega) (.int .i64 r0)) (fun k_ (hk_ : V0.heap.size ≤ k_ ∧ k_ ≠ g10 ∧ k_ ≠ g10 + 1) => by show k_ ≠ g10; omega) (.int .i64 r1)) (fun k_ (hk_ : V0.heap.size ≤ k_ ∧ k_ ≠ g10 ∧ k_ ≠ g10 + 1) => by show k_ ≠ g10; omega) (.int .i64 r2)) (fun k_ (hk_ : V0.heap.size ≤ k_ ∧ k_ ≠ g10 ∧ k_ ≠ g10 + 1) => by show k_ ≠ g10; omega) (.slice rA r3.length ra)) (fun k_ (hk_ : V0.heap.size ≤ k_ ∧ k_ ≠ g10 ∧ k_ ≠ g10 + 1) => by show k_ ≠ g10; omega) (.slice rB r4.length rb))
        replace HD := Aside0.mk (below_set (j := 4) (v := (.slice rB r4.length rb)) (below_set (j := 3) (v := (.slice rA r3.length ra)) (below_set (j := 2) (v := (.int .i64 r2)) (below_set (j := 1) (v := (.int .i64 r1)) (below_set (j := 0) (v := (.int .i64 r0)) HD.out (show wr.heap.size ≤ g10 by omega)) (show wr.heap.size ≤ g10 by omega)) (show wr.heap.size ≤ g10 by omega)) (show wr.heap.size ≤ g10 by omega)) (show wr.heap.size ≤ g10 by omega))
        have hka : ((((((V061011).setCell ⟨g10, 0, none⟩ (.int .i64 r0)).setCell ⟨g10, 1, none⟩ (.int .i64 r1)).setCell ⟨g10, 2, none⟩ (.int .i64 r2)).setCell ⟨g10, 3, none⟩ (.slice rA r3.length ra)).setCell ⟨g10, 4, none⟩ (.slice rB r4.length rb)).heap.size = V061011.heap.size := by simp
        generalize (((((V061011).setCell ⟨g10, 0, none⟩ (.int .i64 r0)).setCell ⟨g10, 1, none⟩ (.int .i64 r1)).setCell ⟨g10, 2, none⟩ (.int .i64 r2)).setCell ⟨g10, 3, none⟩ (.slice rA r3.length ra)).setCell ⟨g10, 4, none⟩ (.slice rB r4.length rb) = V061011a at *
        refine hK.out _ _ trivial (fun _ _ => ⟨bc0 HA.out 0, bc0 HA.out 1, bc0 HA.out 2, bc0 HA.out 3, bc0 HA.out 4, (HD.out.cell hadl).trans Q0.out⟩) (fun hTV => ?_)
        clear hK K hTU
        have hTU := hTV (by kernel_rfl) (by decide)
        clear hTV
        try simp only [Act.put, List.setIfInBounds_toArray, List.set_cons_zero, List.set_cons_succ]
        refine till_one (i := 13) (by kernel_rfl) rfl (fun K hK => ?_)
        have kHM := bc0 HM.out
        have fHM := bf0 HM.out
        have yHM := blk_lt HM.out
        have kHF := bc0 HF.out
        have fHF := bf0 HF.out
        have yHF := blk_lt HF.out
        go_simp
        clear kHM fHM yHM kHF fHF yHF
        replace HA := Aside0.mk (blk_far (p := ⟨g10 + 1, 1, none⟩) (blk_far (p := ⟨g10 + 1, 0, none⟩) HA.out (show w.heap.size ≠ g10 + 1 by omega) (.int .i64 0)) (show w.heap.size ≠ g10 + 1 by omega) (.int .i64 s6))
        replace HL := Aside0.mk (blk_far (p := ⟨g10 + 1, 1, none⟩) (blk_far (p := ⟨g10 + 1, 0, none⟩) HL.out (show w.heap.size + 1 ≠ g10 + 1 by omega) (.int .i64 0)) (show w.heap.size + 1 ≠ g10 + 1 by omega) (.int .i64 s6))
        replace HM := Aside0.mk (blk_far (p := ⟨g10 + 1, 1, none⟩) (blk_far (p := ⟨g10 + 1, 0, none⟩) HM.out (show g10 ≠ g10 + 1 by omega) (.int .i64 0)) (show g10 ≠ g10 + 1 by omega) (.int .i64 s6))
        replace HF : Aside0 ((((V061011a).setCell ⟨g10 + 1, 0, none⟩ (.int .i64 0)).setCell ⟨g10 + 1, 1, none⟩ (.int .i64 s6)).heap[g10 + 1]? = some (.cells #[(.int .i64 0), (.int .i64 s6)] 34 (0, 0))) := Aside0.mk (blk_put (blk_put HF.out 0 (.int .i64 0) rfl) 1 (.int .i64 s6) rfl)
        replace HrV := Aside0.mk (Kd.V_far (p := ⟨g10 + 1, 1, none⟩) (Kd.V_far (p := ⟨g10 + 1, 0, none⟩) HrV.out (fun k_ (hk_ : V0.heap.size ≤ k_ ∧ k_ ≠ g10 ∧ k_ ≠ g10 + 1) => by show k_ ≠ g10 + 1; omega) (.int .i64 0)) (fun k_ (hk_ : V0.heap.size ≤ k_ ∧ k_ ≠ g10 ∧ k_ ≠ g10 + 1) => by show k_ ≠ g10 + 1; omega) (.int .i64 s6))
        replace HrW := Aside0.mk (Kd.V_far (p := ⟨g10 + 1, 1, none⟩) (Kd.V_far (p := ⟨g10 + 1, 0, none⟩) HrW.out (fun k_ (hk_ : V0.heap.size ≤ k_ ∧ k_ ≠ g10 ∧ k_ ≠ g10 + 1) => by show k_ ≠ g10 + 1; omega) (.int .i64 0)) (fun k_ (hk_ : V0.heap.size ≤ k_ ∧ k_ ≠ g10 ∧ k_ ≠ g10 + 1) => by show k_ ≠ g10 + 1; omega) (.int .i64 s6))
        replace HD := Aside0.mk (below_set (j := 1) (v := (.int .i64 s6)) (below_set (j := 0) (v := (.int .i64 0)) HD.out (show wr.heap.size ≤ g10 + 1 by omega)) (show wr.heap.size ≤ g10 + 1 by omega))
        have hkb : (((V061011a).setCell ⟨g10 + 1, 0, none⟩ (.int .i64 0)).setCell ⟨g10 + 1, 1, none⟩ (.int .i64 s6)).heap.size = V061011a.heap.size := by simp
        generalize ((V061011a).setCell ⟨g10 + 1, 0, none⟩ (.int .i64 0)).setCell ⟨g10 + 1, 1, none⟩ (.int .i64 s6) = V061011b at *
        refine hK.out _ _ trivial (fun _ h => absurd rfl h) (fun _ => ?_)
        clear hK K hTU
        refine till_done (by kernel_rfl) ?_ _
        have kHM := bc0 HM.out
        have fHM := bf0 HM.out
        have yHM := blk_lt HM.out
        have kHF := bc0 HF.out
        have fHF := bf0 HF.out
        have yHF := blk_lt HF.out
        have kHA := bc0 HA.out
        have fHA := bf0 HA.out
        have yHA := blk_lt HA.out
        go_wp2_with fail
        clear kHM fHM yHM kHF fHF yHF kHA fHA yHA
        have hdz := below_size HD.out
        have HG2 := Aside0.mk (grown_set (grown_set (grown_set (grown_set (grown_set (grown_step HG.out HD.out) 0 (.int .i64 r0)) 1 (.int .i64 r1)) 2 (.int .i64 r2)) 3 (.slice rA r3.length ra)) 4 (.slice rB r4.length rb))
        have HB2 := Aside0.mk (below_set (j := 4) (v := (.slice rB r4.length rb)) (below_set (j := 3) (v := (.slice rA r3.length ra)) (below_set (j := 2) (v := (.int .i64 r2)) (below_set (j := 1) (v := (.int .i64 r1)) (below_set (j := 0) (v := (.int .i64 r0)) (below_step HB.out HD.out) (Nat.le_refl _)) (Nat.le_refl _)) (Nat.le_refl _)) (Nat.le_refl _)) (Nat.le_refl _))
        replace HA := Aside0.mk (blk_put (blk_put (blk_put (blk_put (blk_put HA.out 0 (.int .i64 r0) rfl) 1 (.int .i64 r1) rfl) 2 (.int .i64 r2) rfl) 3 (.slice rA r3.length ra) rfl) 4 (.slice rB r4.length rb) rfl)
        replace HL := Aside0.mk (blk_far (p := ⟨w.heap.size, 4, none⟩) (blk_far (p := ⟨w.heap.size, 3, none⟩) (blk_far (p := ⟨w.heap.size, 2, none⟩) (blk_far (p := ⟨w.heap.size, 1, none⟩) (blk_far (p := ⟨w.heap.size, 0, none⟩) HL.out (show w.heap.size + 1 ≠ w.heap.size by omega) (.int .i64 r0)) (show w.heap.size + 1 ≠ w.heap.size by omega) (.int .i64 r1)) (show w.heap.size + 1 ≠ w.heap.size by omega) (.int .i64 r2)) (show w.heap.size + 1 ≠ w.heap.size by omega) (.slice rA r3.length ra)) (show w.heap.size + 1 ≠ w.heap.size by omega) (.slice rB r4.length rb))
        replace HrV := Aside0.mk (Kd.V_far (p := ⟨w.heap.size, 4, none⟩) (Kd.V_far (p := ⟨w.heap.size, 3, none⟩) (Kd.V_far (p := ⟨w.heap.size, 2, none⟩) (Kd.V_far (p := ⟨w.heap.size, 1, none⟩) (Kd.V_far (p := ⟨w.heap.size, 0, none⟩) HrV.out (fun k_ hk_ => by show k_ ≠ w.heap.size; omega) (.int .i64 r0)) (fun k_ hk_ => by show k_ ≠ w.heap.size; omega) (.int .i64 r1)) (fun k_ hk_ => by show k_ ≠ w.heap.size; omega) (.int .i64 r2)) (fun k_ hk_ => by show k_ ≠ w.heap.size; omega) (.slice rA r3.length ra)) (fun k_ hk_ => by show k_ ≠ w.heap.size; omega) (.slice rB r4.length rb))
        replace HrW := Aside0.mk (Kd.V_far (p := ⟨w.heap.size, 4, none⟩) (Kd.V_far (p := ⟨w.heap.size, 3, none⟩) (Kd.V_far (p := ⟨w.heap.size, 2, none⟩) (Kd.V_far (p := ⟨w.heap.size, 1, none⟩) (Kd.V_far (p := ⟨w.heap.size, 0, none⟩) HrW.out (fun k_ hk_ => by show k_ ≠ w.heap.size; omega) (.int .i64 r0)) (fun k_ hk_ => by show k_ ≠ w.heap.size; omega) (.int .i64 r1)) (fun k_ hk_ => by show k_ ≠ w.heap.size; omega) (.int .i64 r2)) (fun k_ hk_ => by show k_ ≠ w.heap.size; omega) (.slice rA r3.length ra)) (fun k_ hk_ => by show k_ ≠ w.heap.size; omega) (.slice rB r4.length rb))
        go_roundg (out.length - (i + 1))
        case measure => omega
        case rel => exact ⟨i + 1, r0, r1, r2, rA, ra, r3, rB, rb, r4, by omega, by omega, by go_num, HE2, HA, HL, ⟨Kd.F_now (Kd.V_F HrV.out)⟩, (Kd.V_at HrV.out).2.1, ⟨Kd.F_now (Kd.V_F HrW.out)⟩, (Kd.V_at HrW.out).2.1, HG2, HB2⟩
      · skip
        go_simp
        have hd11 := below_size HD.out
        have hle1 := Nat.le_succ V06.heap.size
        replace HrV := Aside0.mk (Kd.V_mono (ok' := fun k_ => V0.heap.size ≤ k_ ∧ k_ ≠ V06.heap.size ∧ k_ ≠ V06.heap.size + 1) (Kd.V_elderB (Kd.V_elderB HrV.out V06.heap.size (Nat.le_refl _)) (V06.heap.size + 1) (Nat.le_succ _)) (fun k_ hk_ => ⟨hk_.1.1, hk_.1.2, hk_.2⟩))
        replace HrW := Aside0.mk (Kd.V_mono (ok' := fun k_ => V0.heap.size ≤ k_ ∧ k_ ≠ V06.heap.size ∧ k_ ≠ V06.heap.size + 1) (Kd.V_elderB (Kd.V_elderB HrW.out V06.heap.size (Nat.le_refl _)) (V06.heap.size + 1) (Nat.le_succ _)) (fun k_ hk_ => ⟨hk_.1.1, hk_.1.2, hk_.2⟩))
        have l3_g11 := blk_lt HA.out
        have l4_g11 := blk_lt HL.out
        replace HA := Aside0.mk (blk_later HA.out (.cells #[.int .i64 0, .int .i64 0] 34))
        replace HL := Aside0.mk (blk_later HL.out (.cells #[.int .i64 0, .int .i64 0] 34))
        replace HrV := Aside0.mk (Kd.V_alloc HrV.out (.cells #[.int .i64 0, .int .i64 0] 34))
        replace HrW := Aside0.mk (Kd.V_alloc HrW.out (.cells #[.int .i64 0, .int .i64 0] 34))
        replace HD := Aside0.mk (below_alloc HD.out (.cells #[.int .i64 0, .int .i64 0] 34))
        have HF := Aside0.mk (blk_at (w := V06) (.cells #[.int .i64 0, .int .i64 0] 34))
        have hs11 : (V06.alloc (.cells #[.int .i64 0, .int .i64 0] 34)).heap.size = V06.heap.size + 1 := by simp
        generalize V06.alloc (.cells #[.int .i64 0, .int .i64 0] 34) = V0611 at *
        generalize V06.heap.size = g11 at *
        refine hK.out _ _ trivial (fun _ _ => ⟨bc0 HA.out 0, bc0 HA.out 1, bc0 HA.out 2, bc0 HA.out 3, bc0 HA.out 4, (HD.out.cell hadl).trans Q0.out⟩) (fun hTV => ?_)
        clear hK K hTU
        have hTU := hTV (by kernel_rfl) (by decide)
        clear hTV
        try simp only [Act.put, List.setIfInBounds_toArray, List.set_cons_zero, List.set_cons_succ]
        refine till_one (i := 10) (by kernel_rfl) rfl (fun K hK => ?_)
        go_simp
        have hd10 := below_size HD.out
        have l5_g111 := blk_lt HA.out
        have l6_g111 := blk_lt HL.out
        have l7_g111 := blk_lt HF.out
        replace HA := Aside0.mk (blk_later HA.out (.cells #[.int .i64 0, .int .i64 0, .int .i64 0, .slice none 0 0, .slice none 0 0] 25))
        replace HL := Aside0.mk (blk_later HL.out (.cells #[.int .i64 0, .int .i64 0, .int .i64 0, .slice none 0 0, .slice none 0 0] 25))
        replace HF := Aside0.mk (blk_later HF.out (.cells #[.int .i64 0, .int .i64 0, .int .i64 0, .slice none 0 0, .slice none 0 0] 25))
        replace HrV := Aside0.mk (Kd.V_alloc HrV.out (.cells #[.int .i64 0, .int .i64 0, .int .i64 0, .slice none 0 0, .slice none 0 0] 25))
        replace HrW := Aside0.mk (Kd.V_alloc HrW.out (.cells #[.int .i64 0, .int .i64 0, .int .i64 0, .slice none 0 0, .slice none 0 0] 25))
        replace HD := Aside0.mk (below_alloc HD.out (.cells #[.int .i64 0, .int .i64 0, .int .i64 0, .slice none 0 0, .slice none 0 0] 25))
        have HM := Aside0.mk (blk_at (w := V0611) (.cells #[.int .i64 0, .int .i64 0, .int .i64 0, .slice none 0 0, .slice none 0 0] 25))
        rw [hs11] at HM l5_g111 l6_g111 l7_g111
        clear hs11
        generalize V0611.alloc (.cells #[.int .i64 0, .int .i64 0, .int .i64 0, .slice none 0 0, .slice none 0 0] 25) = V061110 at *
        refine hK.out _ _ trivial (fun _ _ => ⟨bc0 HA.out 0, bc0 HA.out 1, bc0 HA.out 2, bc0 HA.out 3, bc0 HA.out 4, (HD.out.cell hadl).trans Q0.out⟩) (fun hTV => ?_)
        clear hK K hTU
        have hTU := hTV (by kernel_rfl) (by decide)
        clear hTV
        try simp only [Act.put, List.setIfInBounds_toArray, List.set_cons_zero, List.set_cons_succ]
        refine till_one (i := 12) (by kernel_rfl) rfl (fun K hK => ?_)
        have kHM := bc0 HM.out
        have fHM := bf0 HM.out
        have yHM := blk_lt HM.out
        have kHF := bc0 HF.out
        have fHF := bf0 HF.out
        have yHF := blk_lt HF.out
        go_simp
        clear kHM fHM yHM kHF fHF yHF
        replace HA := Aside0.mk (blk_far (p := ⟨g11 + 1, 4, none⟩) (blk_far (p := ⟨g11 + 1, 3, none⟩) (blk_far (p := ⟨g11 + 1, 2, none⟩) (blk_far (p := ⟨g11 + 1, 1, none⟩) (blk_far (p := ⟨g11 + 1, 0, none⟩) HA.out (show w.heap.size ≠ g11 + 1 by omega) (.int .i64 r0)) (show w.heap.size ≠ g11 + 1 by omega) (.int .i64 r1)) (show w.heap.size ≠ g11 + 1 by omega) (.int .i64 r2)) (show w.heap.size ≠ g11 + 1 by omega) (.slice rA r3.length ra)) (show w.heap.size ≠ g11 + 1 by omega) (.slice rB r4.length rb))
        replace HL := Aside0.mk (blk_far (p := ⟨g11 + 1, 4, none⟩) (blk_far (p := ⟨g11 + 1, 3, none⟩) (blk_far (p := ⟨g11 + 1, 2, none⟩) (blk_far (p := ⟨g11 + 1, 1, none⟩) (blk_far (p := ⟨g11 + 1, 0, none⟩) HL.out (show w.heap.size + 1 ≠ g11 + 1 by omega) (.int .i64 r0)) (show w.heap.size + 1 ≠ g11 + 1 by omega) (.int .i64 r1)) (show w.heap.size + 1 ≠ g11 + 1 by omega) (.int .i64 r2)) (show w.heap.size + 1 ≠ g11 + 1 by omega) (.slice rA r3.length ra)) (show w.heap.size + 1 ≠ g11 + 1 by omega) (.slice rB r4.length rb))
        replace HF := Aside0.mk (blk_far (p := ⟨g11 + 1, 4, none⟩) (blk_far (p := ⟨g11 + 1, 3, none⟩) (blk_far (p := ⟨g11 + 1, 2, none⟩) (blk_far (p := ⟨g11 + 1, 1, none⟩) (blk_far (p := ⟨g11 + 1, 0, none⟩) HF.out (show g11 ≠ g11 + 1 by omega) (.int .i64 r0)) (show g11 ≠ g11 + 1 by omega) (.int .i64 r1)) (show g11 ≠ g11 + 1 by omega) (.int .i64 r2)) (show g11 ≠ g11 + 1 by omega) (.slice rA r3.length ra)) (show g11 ≠ g11 + 1 by omega) (.slice rB r4.length rb))
        replace HM : Aside0 (((((((V061110).setCell ⟨g11 + 1, 0, none⟩ (.int .i64 r0)).setCell ⟨g11 + 1, 1, none⟩ (.int .i64 r1)).setCell ⟨g11 + 1, 2, none⟩ (.int .i64 r2)).setCell ⟨g11 + 1, 3, none⟩ (.slice rA r3.length ra)).setCell ⟨g11 + 1, 4, none⟩ (.slice rB r4.length rb)).heap[g11 + 1]? = some (.cells #[(.int .i64 r0), (.int .i64 r1), (.int .i64 r2), (.slice rA r3.length ra), (.slice rB r4.length rb)] 25 (0, 0))) := Aside0.mk (blk_put (blk_put (blk_put (blk_put (blk_put HM.out 0 (.int .i64 r0) rfl) 1 (.int .i64 r1) rfl) 2 (.int .i64 r2) rfl) 3 (.slice rA r3.length ra) rfl) 4 (.slice rB r4.length rb) rfl)
        replace HrV := Aside0.mk (Kd.V_far (p := ⟨g11 + 1, 4, none⟩) (Kd.V_far (p := ⟨g11 + 1, 3, none⟩) (Kd.V_far (p := ⟨g11 + 1, 2, none⟩) (Kd.V_far (p := ⟨g11 + 1, 1, none⟩) (Kd.V_far (p := ⟨g11 + 1, 0, none⟩) HrV.out (fun k_ (hk_ : V0.heap.size ≤ k_ ∧ k_ ≠ g11 ∧ k_ ≠ g11 + 1) => by show k_ ≠ g11 + 1; omega) (.int .i64 r0)) (fun k_ (hk_ : V0.heap.size ≤ k_ ∧ k_ ≠ g11 ∧ k_ ≠ g11 + 1) => by show k_ ≠ g11 + 1; omega) (.int .i64 r1)) (fun k_ (hk_ : V0.heap.size ≤ k_ ∧ k_ ≠ g11 ∧ k_ ≠ g11 + 1) => by show k_ ≠ g11 + 1; omega) (.int .i64 r2)) (fun k_ (hk_ : V0.heap.size ≤ k_ ∧ k_ ≠ g11 ∧ k_ ≠ g11 + 1) => by show k_ ≠ g11 + 1; omega) (.slice rA r3.length ra)) (fun k_ (hk_ : V0.heap.size ≤ k_ ∧ k_ ≠ g11 ∧ k_ ≠ g11 + 1) => by show k_ ≠ g11 + 1; omega) (.slice rB r4.length rb))
        replace HrW := Aside0.mk (Kd.V_far (p := ⟨g11 + 1, 4, none⟩) (Kd.V_far (p := ⟨g11 + 1, 3, none⟩) (Kd.V_far (p := ⟨g11 + 1, 2, none⟩) (Kd.V_far (p := ⟨g11 + 1, 1, none⟩) (Kd.V_far (p := ⟨g11 + 1, 0, none⟩) HrW.out (fun k_ (hk_ : V0.heap.size ≤ k_ ∧ k_ ≠ g11 ∧ k_ ≠ g11 + 1) => by show k_ ≠ g11 + 1; omega) (.int .i64 r0)) (fun k_ (hk_ : V0.heap.size ≤ k_ ∧ k_ ≠ g11 ∧ k_ ≠ g11 + 1) => by show k_ ≠ g11 + 1; omega) (.int .i64 r1)) (fun k_ (hk_ : V0.heap.size ≤ k_ ∧ k_ ≠ g11 ∧ k_ ≠ g11 + 1) => by show k_ ≠ g11 + 1; omega) (.int .i64 r2)) (fun k_ (hk_ : V0.heap.size ≤ k_ ∧ k_ ≠ g11 ∧ k_ ≠ g11 + 1) => by show k_ ≠ g11 + 1; omega) (.slice rA r3.length ra)) (fun k_ (hk_ : V0.heap.size ≤ k_ ∧ k_ ≠ g11 ∧ k_ ≠ g11 + 1) => by show k_ ≠ g11 + 1; omega) (.slice rB r4.length rb))
        replace HD := Aside0.mk (below_set (j := 4) (v := (.slice rB r4.length rb)) (below_set (j := 3) (v := (.slice rA r3.length ra)) (below_set (j := 2) (v := (.int .i64 r2)) (below_set (j := 1) (v := (.int .i64 r1)) (below_set (j := 0) (v := (.int .i64 r0)) HD.out (show wr.heap.size ≤ g11 + 1 by omega)) (show wr.heap.size ≤ g11 + 1 by omega)) (show wr.heap.size ≤ g11 + 1 by omega)) (show wr.heap.size ≤ g11 + 1 by omega)) (show wr.heap.size ≤ g11 + 1 by omega))
        have hka : ((((((V061110).setCell ⟨g11 + 1, 0, none⟩ (.int .i64 r0)).setCell ⟨g11 + 1, 1, none⟩ (.int .i64 r1)).setCell ⟨g11 + 1, 2, none⟩ (.int .i64 r2)).setCell ⟨g11 + 1, 3, none⟩ (.slice rA r3.length ra)).setCell ⟨g11 + 1, 4, none⟩ (.slice rB r4.length rb)).heap.size = V061110.heap.size := by simp
        generalize (((((V061110).setCell ⟨g11 + 1, 0, none⟩ (.int .i64 r0)).setCell ⟨g11 + 1, 1, none⟩ (.int .i64 r1)).setCell ⟨g11 + 1, 2, none⟩ (.int .i64 r2)).setCell ⟨g11 + 1, 3, none⟩ (.slice rA r3.length ra)).setCell ⟨g11 + 1, 4, none⟩ (.slice rB r4.length rb) = V061110a at *
        refine hK.out _ _ trivial (fun _ _ => ⟨bc0 HA.out 0, bc0 HA.out 1, bc0 HA.out 2, bc0 HA.out 3, bc0 HA.out 4, (HD.out.cell hadl).trans Q0.out⟩) (fun hTV => ?_)
        clear hK K hTU
        have hTU := hTV (by kernel_rfl) (by decide)
        clear hTV
        try simp only [Act.put, List.setIfInBounds_toArray, List.set_cons_zero, List.set_cons_succ]
        refine till_one (i := 13) (by kernel_rfl) rfl (fun K hK => ?_)
        have kHM := bc0 HM.out
        have fHM := bf0 HM.out
        have yHM := blk_lt HM.out
        have kHF := bc0 HF.out
        have fHF := bf0 HF.out
        have yHF := blk_lt HF.out
        go_simp
        clear kHM fHM yHM kHF fHF yHF
        replace HA := Aside0.mk (blk_far (p := ⟨g11, 1, none⟩) (blk_far (p := ⟨g11, 0, none⟩) HA.out (show w.heap.size ≠ g11 by omega) (.int .i64 0)) (show w.heap.size ≠ g11 by omega) (.int .i64 s6))
        replace HL := Aside0.mk (blk_far (p := ⟨g11, 1, none⟩) (blk_far (p := ⟨g11, 0, none⟩) HL.out (show w.heap.size + 1 ≠ g11 by omega) (.int .i64 0)) (show w.heap.size + 1 ≠ g11 by omega) (.int .i64 s6))
        replace HF : Aside0 ((((V061110a).setCell ⟨g11, 0, none⟩ (.int .i64 0)).setCell ⟨g11, 1, none⟩ (.int .i64 s6)).heap[g11]? = some (.cells #[(.int .i64 0), (.int .i64 s6)] 34 (0, 0))) := Aside0.mk (blk_put (blk_put HF.out 0 (.int .i64 0) rfl) 1 (.int .i64 s6) rfl)
        replace HM := Aside0.mk (blk_far (p := ⟨g11, 1, none⟩) (blk_far (p := ⟨g11, 0, none⟩) HM.out (show g11 + 1 ≠ g11 by omega) (.int .i64 0)) (show g11 + 1 ≠ g11 by omega) (.int .i64 s6))
        replace HrV := Aside0.mk (Kd.V_far (p := ⟨g11, 1, none⟩) (Kd.V_far (p := ⟨g11, 0, none⟩) HrV.out (fun k_ (hk_ : V0.heap.size ≤ k_ ∧ k_ ≠ g11 ∧ k_ ≠ g11 + 1) => by show k_ ≠ g11; omega) (.int .i64 0)) (fun k_ (hk_ : V0.heap.size ≤ k_ ∧ k_ ≠ g11 ∧ k_ ≠ g11 + 1) => by show k_ ≠ g11; omega) (.int .i64 s6))
        replace HrW := Aside0.mk (Kd.V_far (p := ⟨g11, 1, none⟩) (Kd.V_far (p := ⟨g11, 0, none⟩) HrW.out (fun k_ (hk_ : V0.heap.size ≤ k_ ∧ k_ ≠ g11 ∧ k_ ≠ g11 + 1) => by show k_ ≠ g11; omega) (.int .i64 0)) (fun k_ (hk_ : V0.heap.size ≤ k_ ∧ k_ ≠ g11 ∧ k_ ≠ g11 + 1) => by show k_ ≠ g11; omega) (.int .i64 s6))
        replace HD := Aside0.mk (below_set (j := 1) (v := (.int .i64 s6)) (below_set (j := 0) (v := (.int .i64 0)) HD.out (show wr.heap.size ≤ g11 by omega)) (show wr.heap.size ≤ g11 by omega))
        have hkb : (((V061110a).setCell ⟨g11, 0, none⟩ (.int .i64 0)).setCell ⟨g11, 1, none⟩ (.int .i64 s6)).heap.size = V061110a.heap.size := by simp
        generalize ((V061110a).setCell ⟨g11, 0, none⟩ (.int .i64 0)).setCell ⟨g11, 1, none⟩ (.int .i64 s6) = V061110b at *
        refine hK.out _ _ trivial (fun _ h => absurd rfl h) (fun _ => ?_)
        clear hK K hTU
        refine till_done (by kernel_rfl) ?_ _
        have kHM := bc0 HM.out
        have fHM := bf0 HM.out
        have yHM := blk_lt HM.out
        have kHF := bc0 HF.out
        have fHF := bf0 HF.out
        have yHF := blk_lt HF.out
        have kHA := bc0 HA.out
        have fHA := bf0 HA.out
        have yHA := blk_lt HA.out
        go_wp2_with fail
        clear kHM fHM yHM kHF fHF yHF kHA fHA yHA
        have hdz := below_size HD.out
        have HG2 := Aside0.mk (grown_set (grown_set (grown_set (grown_set (grown_set (grown_step HG.out HD.out) 0 (.int .i64 r0)) 1 (.int .i64 r1)) 2 (.int .i64 r2)) 3 (.slice rA r3.length ra)) 4 (.slice rB r4.length rb))
        have HB2 := Aside0.mk (below_set (j := 4) (v := (.slice rB r4.length rb)) (below_set (j := 3) (v := (.slice rA r3.length ra)) (below_set (j := 2) (v := (.int .i64 r2)) (below_set (j := 1) (v := (.int .i64 r1)) (below_set (j := 0) (v := (.int .i64 r0)) (below_step HB.out HD.out) (Nat.le_refl _)) (Nat.le_refl _)) (Nat.le_refl _)) (Nat.le_refl _)) (Nat.le_refl _))
        replace HA := Aside0.mk (blk_put (blk_put (blk_put (blk_put (blk_put HA.out 0 (.int .i64 r0) rfl) 1 (.int .i64 r1) rfl) 2 (.int .i64 r2) rfl) 3 (.slice rA r3.length ra) rfl) 4 (.slice rB r4.length rb) rfl)
        replace HL := Aside0.mk (blk_far (p := ⟨w.heap.size, 4, none⟩) (blk_far (p := ⟨w.heap.size, 3, none⟩) (blk_far (p := ⟨w.heap.size, 2, none⟩) (blk_far (p := ⟨w.heap.size, 1, none⟩) (blk_far (p := ⟨w.heap.size, 0, none⟩) HL.out (show w.heap.size + 1 ≠ w.heap.size by omega) (.int .i64 r0)) (show w.heap.size + 1 ≠ w.heap.size by omega) (.int .i64 r1)) (show w.heap.size + 1 ≠ w.heap.size by omega) (.int .i64 r2)) (show w.heap.size + 1 ≠ w.heap.size by omega) (.slice rA r3.length ra)) (show w.heap.size + 1 ≠ w.heap.size by omega) (.slice rB r4.length rb))
        replace HrV := Aside0.mk (Kd.V_far (p := ⟨w.heap.size, 4, none⟩) (Kd.V_far (p := ⟨w.heap.size, 3, none⟩) (Kd.V_far (p := ⟨w.heap.size, 2, none⟩) (Kd.V_far (p := ⟨w.heap.size, 1, none⟩) (Kd.V_far (p := ⟨w.heap.size, 0, none⟩) HrV.out (fun k_ hk_ => by show k_ ≠ w.heap.size; omega) (.int .i64 r0)) (fun k_ hk_ => by show k_ ≠ w.heap.size; omega) (.int .i64 r1)) (fun k_ hk_ => by show k_ ≠ w.heap.size; omega) (.int .i64 r2)) (fun k_ hk_ => by show k_ ≠ w.heap.size; omega) (.slice rA r3.length ra)) (fun k_ hk_ => by show k_ ≠ w.heap.size; omega) (.slice rB r4.length rb))
        replace HrW := Aside0.mk (Kd.V_far (p := ⟨w.heap.size, 4, none⟩) (Kd.V_far (p := ⟨w.heap.size, 3, none⟩) (Kd.V_far (p := ⟨w.heap.size, 2, none⟩) (Kd.V_far (p := ⟨w.heap.size, 1, none⟩) (Kd.V_far (p := ⟨w.heap.size, 0, none⟩) HrW.out (fun k_ hk_ => by show k_ ≠ w.heap.size; omega) (.int .i64 r0)) (fun k_ hk_ => by show k_ ≠ w.heap.size; omega) (.int .i64 r1)) (fun k_ hk_ => by show k_ ≠ w.heap.size; omega) (.int .i64 r2)) (fun k_ hk_ => by show k_ ≠ w.heap.size; omega) (.slice rA r3.length ra)) (fun k_ hk_ => by show k_ ≠ w.heap.size; omega) (.slice rB r4.length rb))
        go_roundg (out.length - (i + 1))
        case measure => omega
        case rel => exact ⟨i + 1, r0, r1, r2, rA, ra, r3, rB, rb, r4, by omega, by omega, by go_num, HE2, HA, HL, ⟨Kd.F_now (Kd.V_F HrV.out)⟩, (Kd.V_at HrV.out).2.1, ⟨Kd.F_now (Kd.V_F HrW.out)⟩, (Kd.V_at HrW.out).2.1, HG2, HB2⟩
    · skip
      go_simp
      have hd10 := below_size HD.out
      have hs10 : (V0.alloc (.cells #[.int .i64 0, .int .i64 0, .int .i64 0, .slice none 0 0, .slice none 0 0] 25)).heap.size = wr.heap.size + 1 := by rw [World.size_alloc, hwd]
      have l1_wrheapsize := blk_lt HA.out
      have l2_wrheapsize := blk_lt HL.out
      replace HA := Aside0.mk (blk_later HA.out (.cells #[.int .i64 0, .int .i64 0, .int .i64 0, .slice none 0 0, .slice none 0 0] 25))
      replace HL := Aside0.mk (blk_later HL.out (.cells #[.int .i64 0, .int .i64 0, .int .i64 0, .slice none 0 0, .slice none 0 0] 25))
      replace HD := Aside0.mk (below_alloc HD.out (.cells #[.int .i64 0, .int .i64 0, .int .i64 0, .slice none 0 0, .slice none 0 0] 25))
      have HM := Aside0.mk (blk_at (w := V0) (.cells #[.int .i64 0, .int .i64 0, .int .i64 0, .slice none 0 0, .slice none 0 0] 25))
      rw [hwd] at HM l1_wrheapsize l2_wrheapsize
      clear hwd
      generalize V0.alloc (.cells #[.int .i64 0, .int .i64 0, .int .i64 0, .slice none 0 0, .slice none 0 0] 25) = V010 at *
      refine hK.out _ _ trivial (fun _ _ => ⟨bc0 HA.out 0, bc0 HA.out 1, bc0 HA.out 2, bc0 HA.out 3, bc0 HA.out 4, (HD.out.cell hadl).trans Q0.out⟩) (fun hTV => ?_)
      clear hK K hTU
      have hTU := hTV (by kernel_rfl) (by decide)
      clear hTV
      try simp only [Act.put, List.setIfInBounds_toArray, List.set_cons_zero, List.set_cons_succ]
      refine till_ready (rs := [6, 11]) (by kernel_rfl) (by simp) ?_
      refine each_cons rfl (fun K hK => ?_) (each_cons rfl (fun K hK => ?_) (each_nil))
      · skip
        go_simp
        have hd6 := below_size HD.out
        have l3_cc := blk_lt HA.out
        have l4_cc := blk_lt HL.out
        have l5_cc := blk_lt HM.out
        go_at_call 8
        refine (mailbox_Apply.calls k c0 c1 c2 cA ca c3 cB cb c4 3 x 0 0 0 none 0 [] none 0 [] r0 r1 r2 r3 r4 0 s6 _ (Kd.C_below HC3.out HD.out) ec3 (Kd.C_below HC4.out HD.out) ec4 (Kd.C_nil k70 _) (Nat.le_refl _) (Kd.C_nil (Kd.int .u8) _) (Nat.le_refl _) P1.out).mono ?_
        rintro e V0106 ⟨v3_, v4_, rfl, hv3_, hv4_, hb⟩
        obtain ⟨rA, ra, rfl⟩ := Kd.V_slice hv3_
        obtain ⟨rB, rb, rfl⟩ := Kd.V_slice hv4_
        have HrV := Aside0.mk hv3_
        have HrW := Aside0.mk hv4_
        clear hv3_ hv4_
        have hsz := below_size hb
        replace HA := Aside0.mk (blk_call HA.out hb)
        replace HL := Aside0.mk (blk_call HL.out hb)
        replace HM := Aside0.mk (blk_call HM.out hb)
        replace HD := Aside0.mk (below_step HD.out hb)
        clear hb
        refine hK.out _ _ trivial (fun _ _ => ⟨bc0 HA.out 0, bc0 HA.out 1, bc0 HA.out 2, bc0 HA.out 3, bc0 HA.out 4, (HD.out.cell hadl).trans Q0.out⟩) (fun hTV => ?_)
        clear hK K hTU
        have hTU := hTV (by kernel_rfl) (by decide)
        clear hTV
        try simp only [Act.put, List.setIfInBounds_toArray, List.set_cons_zero, List.set_cons_succ]
        refine till_free (i := 7) (v := ?_) rfl (by decide) (by kernel_rfl) (by kernel_rfl) (by kernel_rfl) (fun _ _ _ h => h) (Or.inl ⟨by rfl, ?_⟩) ⟨hTU.1, fun _ => hTU.2⟩ ?_
        rotate_left
        · (intro w_ _; go_simp; try with_reducible rfl)
        try simp only [Act.put, List.setIfInBounds_toArray, List.set_cons_zero, List.set_cons_succ]
        refine till_free (i := 8) (v := ?_) rfl (by decide) (by kernel_rfl) (by kernel_rfl) (by kernel_rfl) (fun _ _ _ h => h) (Or.inl ⟨by rfl, ?_⟩) ⟨hTU.1, fun _ => hTU.2⟩ ?_
        rotate_left
        · (intro w_ _; go_simp; try with_reducible rfl)
        try simp only [Act.put, List.setIfInBounds_toArray, List.set_cons_zero, List.set_cons_succ]
        refine till_free (i := 9) (v := ?_) rfl (by decide) (by kernel_rfl) (by kernel_rfl) (by kernel_rfl) (fun _ _ _ h => h) (Or.inl ⟨by rfl, ?_⟩) ⟨hTU.1, fun _ => hTU.2⟩ ?_
        rotate_left
        · (intro w_ _; go_simp; try with_reducible rfl)
        try simp only [Act.put, List.setIfInBounds_toArray, List.set_cons_zero, List.set_cons_succ]
        refine till_one (i := 11) (by kernel_rfl) rfl (fun K hK => ?_)
        go_simp
        have hd11 := below_size HD.out
        have l6_g11 := blk_lt HA.out
        have l7_g11 := blk_lt HL.out
        have l8_g11 := blk_lt HM.out
        replace HrV := Aside0.mk (Kd.V_mono (ok' := fun k_ => V010.heap.size ≤ k_ ∧ k_ ≠ V0106.heap.size) (Kd.V_elderB HrV.out V0106.heap.size (Nat.le_refl _)) (fun k_ hk_ => by have h1_ := hk_.1; have h2_ := hk_.2; omega))
        replace HrW := Aside0.mk (Kd.V_mono (ok' := fun k_ => V010.heap.size ≤ k_ ∧ k_ ≠ V0106.heap.size) (Kd.V_elderB HrW.out V0106.heap.size (Nat.le_refl _)) (fun k_ hk_ => by have h1_ := hk_.1; have h2_ := hk_.2; omega))
        replace HA := Aside0.mk (blk_later HA.out (.cells #[.int .i64 0, .int .i64 0] 34))
        replace HL := Aside0.mk (blk_later HL.out (.cells #[.int .i64 0, .int .i64 0] 34))
        replace HM := Aside0.mk (blk_later HM.out (.cells #[.int .i64 0, .int .i64 0] 34))
        replace HrV := Aside0.mk (Kd.V_alloc HrV.out (.cells #[.int .i64 0, .int .i64 0] 34))
        replace HrW := Aside0.mk (Kd.V_alloc HrW.out (.cells #[.int .i64 0, .int .i64 0] 34))
        replace HD := Aside0.mk (below_alloc HD.out (.cells #[.int .i64 0, .int .i64 0] 34))
        have HF := Aside0.mk (blk_at (w := V0106) (.cells #[.int .i64 0, .int .i64 0] 34))
        have hs11 : (V0106.alloc (.cells #[.int .i64 0, .int .i64 0] 34)).heap.size = V0106.heap.size + 1 := by simp
        generalize V0106.alloc (.cells #[.int .i64 0, .int .i64 0] 34) = V010611 at *
        generalize V0106.heap.size = g11 at *
        refine hK.out _ _ trivial (fun _ _ => ⟨bc0 HA.out 0, bc0 HA.out 1, bc0 HA.out 2, bc0 HA.out 3, bc0 HA.out 4, (HD.out.cell hadl).trans Q0.out⟩) (fun hTV => ?_)
        clear hK K hTU
        have hTU := hTV (by kernel_rfl) (by decide)
        clear hTV
        try simp only [Act.put, List.setIfInBounds_toArray, List.set_cons_zero, List.set_cons_succ]
        refine till_one (i := 12) (by kernel_rfl) rfl (fun K hK => ?_)
        have kHM := bc0 HM.out
        have fHM := bf0 HM.out
        have yHM := blk_lt HM.out
        have kHF := bc0 HF.out
        have fHF := bf0 HF.out
        have yHF := blk_lt HF.out
        go_simp
        clear kHM fHM yHM kHF fHF yHF
        replace HA := Aside0.mk (blk_far (p := ⟨wr.heap.size, 4, none⟩) (blk_far (p := ⟨wr.heap.size, 3, none⟩) (blk_far (p := ⟨wr.heap.size, 2, none⟩) (blk_far (p := ⟨wr.heap.size, 1, none⟩) (blk_far (p := ⟨wr.heap.size, 0, none⟩) HA.out (show w.heap.size ≠ wr.heap.size by omega) (.int .i64 r0)) (show w.heap.size ≠ wr.heap.size by omega) (.int .i64 r1)) (show w.heap.size ≠ wr.heap.size by omega) (.int .i64 r2)) (show w.heap.size ≠ wr.heap.size by omega) (.slice rA r3.length ra)) (show w.heap.size ≠ wr.heap.size by omega) (.slice rB r4.length rb))
        replace HL := Aside0.mk (blk_far (p := ⟨wr.heap.size, 4, none⟩) (blk_far (p := ⟨wr.heap.size, 3, none⟩) (blk_far (p := ⟨wr.heap.size, 2, none⟩) (blk_far (p := ⟨wr.heap.size, 1, none⟩) (blk_far (p := ⟨wr.heap.size, 0, none⟩) HL.out (show w.heap.size + 1 ≠ wr.heap.size by omega) (.int .i64 r0)) (show w.heap.size + 1 ≠ wr.heap.size by omega) (.int .i64 r1)) (show w.heap.size + 1 ≠ wr.heap.size by omega) (.int .i64 r2)) (show w.heap.size + 1 ≠ wr.heap.size by omega) (.slice rA r3.length ra)) (show w.heap.size + 1 ≠ wr.heap.size by omega) (.slice rB r4.length rb))
        replace HM : Aside0 (((((((V010611).setCell ⟨wr.heap.size, 0, none⟩ (.int .i64 r0)).setCell ⟨wr.heap.size, 1, none⟩ (.int .i64 r1)).setCell ⟨wr.heap.size, 2, none⟩ (.int .i64 r2)).setCell ⟨wr.heap.size, 3, none⟩ (.slice rA r3.length ra)).setCell ⟨wr.heap.size, 4, none⟩ (.slice rB r4.length rb)).heap[wr.heap.size]? = some (.cells #[(.int .i64 r0), (.int .i64 r1), (.int .i64 r2), (.slice rA r3.length ra), (.slice rB r4.length rb)] 25 (0, 0))) := Aside0.mk (blk_put (blk_put (blk_put (blk_put (blk_put HM.out 0 (.int .i64 r0) rfl) 1 (.int .i64 r1) rfl) 2 (.int .i64 r2) rfl) 3 (.slice rA r3.length ra) rfl) 4 (.slice rB r4.length rb) rfl)
        replace HF := Aside0.mk (blk_far (p := ⟨wr.heap.size, 4, none⟩) (blk_far (p := ⟨wr.heap.size, 3, none⟩) (blk_far (p := ⟨wr.heap.size, 2, none⟩) (blk_far (p := ⟨wr.heap.size, 1, none⟩) (blk_far (p := ⟨wr.heap.size, 0, none⟩) HF.out (show g11 ≠ wr.heap.size by omega) (.int .i64 r0)) (show g11 ≠ wr.heap.size by omega) (.int .i64 r1)) (show g11 ≠ wr.heap.size by omega) (.int .i64 r2)) (show g11 ≠ wr.heap.size by omega) (.slice rA r3.length ra)) (show g11 ≠ wr.heap.size by omega) (.slice rB r4.length rb))
        replace HrV := Aside0.mk (Kd.V_far (p := ⟨wr.heap.size, 4, none⟩) (Kd.V_far (p := ⟨wr.heap.size, 3, none⟩) (Kd.V_far (p := ⟨wr.heap.size, 2, none⟩) (Kd.V_far (p := ⟨wr.heap.size, 1, none⟩) (Kd.V_far (p := ⟨wr.heap.size, 0, none⟩) HrV.out (fun k_ (hk_ : V010.heap.size ≤ k_ ∧ k_ ≠ g11) => by show k_ ≠ wr.heap.size; omega) (.int .i64 r0)) (fun k_ (hk_ : V010.heap.size ≤ k_ ∧ k_ ≠ g11) => by show k_ ≠ wr.heap.size; omega) (.int .i64 r1)) (fun k_ (hk_ : V010.heap.size ≤ k_ ∧ k_ ≠ g11) => by show k_ ≠ wr.heap.size; omega) (.int .i64 r2)) (fun k_ (hk_ : V010.heap.size ≤ k_ ∧ k_ ≠ g11) => by show k_ ≠ wr.heap.size; omega) (.slice rA r3.length ra)) (fun k_ (hk_ : V010.heap.size ≤ k_ ∧ k_ ≠ g11) => by show k_ ≠ wr.heap.size; omega) (.slice rB r4.length rb))
        replace HrW := Aside0.mk (Kd.V_far (p := ⟨wr.heap.size, 4, none⟩) (Kd.V_far (p := ⟨wr.heap.size, 3, none⟩) (Kd.V_far (p := ⟨wr.heap.size, 2, none⟩) (Kd.V_far (p := ⟨wr.heap.size, 1, none⟩) (Kd.V_far (p := ⟨wr.heap.size, 0, none⟩) HrW.out (fun k_ (hk_ : V010.heap.size ≤ k_ ∧ k_ ≠ g11) => by show k_ ≠ wr.heap.size; omega) (.int .i64 r0)) (fun k_ (hk_ : V010.heap.size ≤ k_ ∧ k_ ≠ g11) => by show k_ ≠ wr.heap.size; omega) (.int .i64 r1)) (fun k_ (hk_ : V010.heap.size ≤ k_ ∧ k_ ≠ g11) => by show k_ ≠ wr.heap.size; omega) (.int .i64 r2)) (fun k_ (hk_ : V010.heap.size ≤ k_ ∧ k_ ≠ g11) => by show k_ ≠ wr.heap.size; omega) (.slice rA r3.length ra)) (fun k_ (hk_ : V010.heap.size ≤ k_ ∧ k_ ≠ g11) => by show k_ ≠ wr.heap.size; omega) (.slice rB r4.length rb))
        replace HD := Aside0.mk (below_set (j := 4) (v := (.slice rB r4.length rb)) (below_set (j := 3) (v := (.slice rA r3.length ra)) (below_set (j := 2) (v := (.int .i64 r2)) (below_set (j := 1) (v := (.int .i64 r1)) (below_set (j := 0) (v := (.int .i64 r0)) HD.out (show wr.heap.size ≤ wr.heap.size by omega)) (show wr.heap.size ≤ wr.heap.size by omega)) (show wr.heap.size ≤ wr.heap.size by omega)) (show wr.heap.size ≤ wr.heap.size by omega)) (show wr.heap.size ≤ wr.heap.size by omega))
        have hka : ((((((V010611).setCell ⟨wr.heap.size, 0, none⟩ (.int .i64 r0)).setCell ⟨wr.heap.size, 1, none⟩ (.int .i64 r1)).setCell ⟨wr.heap.size, 2, none⟩ (.int .i64 r2)).setCell ⟨wr.heap.size, 3, none⟩ (.slice rA r3.length ra)).setCell ⟨wr.heap.size, 4, none⟩ (.slice rB r4.length rb)).heap.size = V010611.heap.size := by simp
        generalize (((((V010611).setCell ⟨wr.heap.size, 0, none⟩ (.int .i64 r0)).setCell ⟨wr.heap.size, 1, none⟩ (.int .i64 r1)).setCell ⟨wr.heap.size, 2, none⟩ (.int .i64 r2)).setCell ⟨wr.heap.size, 3, none⟩ (.slice rA r3.length ra)).setCell ⟨wr.heap.size, 4, none⟩ (.slice rB r4.length rb) = V010611a at *
        refine hK.out _ _ trivial (fun _ _ => ⟨bc0 HA.out 0, bc0 HA.out 1, bc0 HA.out 2, bc0 HA.out 3, bc0 HA.out 4, (HD.out.cell hadl).trans Q0.out⟩) (fun hTV => ?_)
        clear hK K hTU
        have hTU := hTV (by kernel_rfl) (by decide)
        clear hTV
        try simp only [Act.put, List.setIfInBounds_toArray, List.set_cons_zero, List.set_cons_succ]
        refine till_one (i := 13) (by kernel_rfl) rfl (fun K hK => ?_)
        have kHM := bc0 HM.out
        have fHM := bf0 HM.out
        have yHM := blk_lt HM.out
        have kHF := bc0 HF.out
        have fHF := bf0 HF.out
        have yHF := blk_lt HF.out
        go_simp
        clear kHM fHM yHM kHF fHF yHF
        replace HA := Aside0.mk (blk_far (p := ⟨g11, 1, none⟩) (blk_far (p := ⟨g11, 0, none⟩) HA.out (show w.heap.size ≠ g11 by omega) (.int .i64 0)) (show w.heap.size ≠ g11 by omega) (.int .i64 s6))
        replace HL := Aside0.mk (blk_far (p := ⟨g11, 1, none⟩) (blk_far (p := ⟨g11, 0, none⟩) HL.out (show w.heap.size + 1 ≠ g11 by omega) (.int .i64 0)) (show w.heap.size + 1 ≠ g11 by omega) (.int .i64 s6))
        replace HM := Aside0.mk (blk_far (p := ⟨g11, 1, none⟩) (blk_far (p := ⟨g11, 0, none⟩) HM.out (show wr.heap.size ≠ g11 by omega) (.int .i64 0)) (show wr.heap.size ≠ g11 by omega) (.int .i64 s6))
        replace HF : Aside0 ((((V010611a).setCell ⟨g11, 0, none⟩ (.int .i64 0)).setCell ⟨g11, 1, none⟩ (.int .i64 s6)).heap[g11]? = some (.cells #[(.int .i64 0), (.int .i64 s6)] 34 (0, 0))) := Aside0.mk (blk_put (blk_put HF.out 0 (.int .i64 0) rfl) 1 (.int .i64 s6) rfl)
        replace HrV := Aside0.mk (Kd.V_far (p := ⟨g11, 1, none⟩) (Kd.V_far (p := ⟨g11, 0, none⟩) HrV.out (fun k_ (hk_ : V010.heap.size ≤ k_ ∧ k_ ≠ g11) => by show k_ ≠ g11; omega) (.int .i64 0)) (fun k_ (hk_ : V010.heap.size ≤ k_ ∧ k_ ≠ g11) => by show k_ ≠ g11; omega) (.int .i64 s6))
        replace HrW := Aside0.mk (Kd.V_far (p := ⟨g11, 1, none⟩) (Kd.V_far (p := ⟨g11, 0, none⟩) HrW.out (fun k_ (hk_ : V010.heap.size ≤ k_ ∧ k_ ≠ g11) => by show k_ ≠ g11; omega) (.int .i64 0)) (fun k_ (hk_ : V010.heap.size ≤ k_ ∧ k_ ≠ g11) => by show k_ ≠ g11; omega) (.int .i64 s6))
        replace HD := Aside0.mk (below_set (j := 1) (v := (.int .i64 s6)) (below_set (j := 0) (v := (.int .i64 0)) HD.out (show wr.heap.size ≤ g11 by omega)) (show wr.heap.size ≤ g11 by omega))
        have hkb : (((V010611a).setCell ⟨g11, 0, none⟩ (.int .i64 0)).setCell ⟨g11, 1, none⟩ (.int .i64 s6)).heap.size = V010611a.heap.size := by simp
        generalize ((V010611a).setCell ⟨g11, 0, none⟩ (.int .i64 0)).setCell ⟨g11, 1, none⟩ (.int .i64 s6) = V010611b at *
        refine hK.out _ _ trivial (fun _ h => absurd rfl h) (fun _ => ?_)
        clear hK K hTU
        refine till_done (by kernel_rfl) ?_ _
        have kHM := bc0 HM.out
        have fHM := bf0 HM.out
        have yHM := blk_lt HM.out
        have kHF := bc0 HF.out
        have fHF := bf0 HF.out
        have yHF := blk_lt HF.out
        have kHA := bc0 HA.out
        have fHA := bf0 HA.out
        have yHA := blk_lt HA.out
        go_wp2_with fail
        clear kHM fHM yHM kHF fHF yHF kHA fHA yHA
        have hdz := below_size HD.out
        have HG2 := Aside0.mk (grown_set (grown_set (grown_set (grown_set (grown_set (grown_step HG.out HD.out) 0 (.int .i64 r0)) 1 (.int .i64 r1)) 2 (.int .i64 r2)) 3 (.slice rA r3.length ra)) 4 (.slice rB r4.length rb))
        have HB2 := Aside0.mk (below_set (j := 4) (v := (.slice rB r4.length rb)) (below_set (j := 3) (v := (.slice rA r3.length ra)) (below_set (j := 2) (v := (.int .i64 r2)) (below_set (j := 1) (v := (.int .i64 r1)) (below_set (j := 0) (v := (.int .i64 r0)) (below_step HB.out HD.out) (Nat.le_refl _)) (Nat.le_refl _)) (Nat.le_refl _)) (Nat.le_refl _)) (Nat.le_refl _))
        replace HA := Aside0.mk (blk_put (blk_put (blk_put (blk_put (blk_put HA.out 0 (.int .i64 r0) rfl) 1 (.int .i64 r1) rfl) 2 (.int .i64 r2) rfl) 3 (.slice rA r3.length ra) rfl) 4 (.slice rB r4.length rb) rfl)
        replace HL := Aside0.mk (blk_far (p := ⟨w.heap.size, 4, none⟩) (blk_far (p := ⟨w.heap.size, 3, none⟩) (blk_far (p := ⟨w.heap.size, 2, none⟩) (blk_far (p := ⟨w.heap.size, 1, none⟩) (blk_far (p := ⟨w.heap.size, 0, none⟩) HL.out (show w.heap.size + 1 ≠ w.heap.size by omega) (.int .i64 r0)) (show w.heap.size + 1 ≠ w.heap.size by omega) (.int .i64 r1)) (show w.heap.size + 1 ≠ w.heap.size by omega) (.int .i64 r2)) (show w.heap.size + 1 ≠ w.heap.size by omega) (.slice rA r3.length ra)) (show w.heap.size + 1 ≠ w.heap.size by omega) (.slice rB r4.length rb))
        replace HrV := Aside0.mk (Kd.V_far (p := ⟨w.heap.size, 4, none⟩) (Kd.V_far (p := ⟨w.heap.size, 3, none⟩) (Kd.V_far (p := ⟨w.heap.size, 2, none⟩) (Kd.V_far (p := ⟨w.heap.size, 1, none⟩) (Kd.V_far (p := ⟨w.heap.size, 0, none⟩) HrV.out (fun k_ hk_ => by show k_ ≠ w.heap.size; omega) (.int .i64 r0)) (fun k_ hk_ => by show k_ ≠ w.heap.size; omega) (.int .i64 r1)) (fun k_ hk_ => by show k_ ≠ w.heap.size; omega) (.int .i64 r2)) (fun k_ hk_ => by show k_ ≠ w.heap.size; omega) (.slice rA r3.length ra)) (fun k_ hk_ => by show k_ ≠ w.heap.size; omega) (.slice rB r4.length rb))
        replace HrW := Aside0.mk (Kd.V_far (p := ⟨w.heap.size, 4, none⟩) (Kd.V_far (p := ⟨w.heap.size, 3, none⟩) (Kd.V_far (p := ⟨w.heap.size, 2, none⟩) (Kd.V_far (p := ⟨w.heap.size, 1, none⟩) (Kd.V_far (p := ⟨w.heap.size, 0, none⟩) HrW.out (fun k_ hk_ => by show k_ ≠ w.heap.size; omega) (.int .i64 r0)) (fun k_ hk_ => by show k_ ≠ w.heap.size; omega) (.int .i64 r1)) (fun k_ hk_ => by show k_ ≠ w.heap.size; omega) (.int .i64 r2)) (fun k_ hk_ => by show k_ ≠ w.heap.size; omega) (.slice rA r3.length ra)) (fun k_ hk_ => by show k_ ≠ w.heap.size; omega) (.slice rB r4.length rb))
        go_roundg (out.length - (i + 1))
        case measure => omega
        case rel => exact ⟨i + 1, r0, r1, r2, rA, ra, r3, rB, rb, r4, by omega, by omega, by go_num, HE2, HA, HL, ⟨Kd.F_now (Kd.V_F HrV.out)⟩, (Kd.V_at HrV.out).2.1, ⟨Kd.F_now (Kd.V_F HrW.out)⟩, (Kd.V_at HrW.out).2.1, HG2, HB2⟩
      · skip
        go_simp
        have hd11 := below_size HD.out
        have l3_wrheapsize1 := blk_lt HA.out
        have l4_wrheapsize1 := blk_lt HL.out
        have l5_wrheapsize1 := blk_lt HM.out
        replace HA := Aside0.mk (blk_later HA.out (.cells #[.int .i64 0, .int .i64 0] 34))
        replace HL := Aside0.mk (blk_later HL.out (.cells #[.int .i64 0, .int .i64 0] 34))
        replace HM := Aside0.mk (blk_later HM.out (.cells #[.int .i64 0, .int .i64 0] 34))
        replace HD := Aside0.mk (below_alloc HD.out (.cells #[.int .i64 0, .int .i64 0] 34))
        have HF := Aside0.mk (blk_at (w := V010) (.cells #[.int .i64 0, .int .i64 0] 34))
        rw [hs10] at HF l3_wrheapsize1 l4_wrheapsize1 l5_wrheapsize1
        clear hs10
        generalize V010.alloc (.cells #[.int .i64 0, .int .i64 0] 34) = V01011 at *
        refine hK.out _ _ trivial (fun _ _ => ⟨bc0 HA.out 0, bc0 HA.out 1, bc0 HA.out 2, bc0 HA.out 3, bc0 HA.out 4, (HD.out.cell hadl).trans Q0.out⟩) (fun hTV => ?_)
        clear hK K hTU
        have hTU := hTV (by kernel_rfl) (by decide)
        clear hTV
        try simp only [Act.put, List.setIfInBounds_toArray, List.set_cons_zero, List.set_cons_succ]
        refine till_one (i := 6) (by kernel_rfl) rfl (fun K hK => ?_)
        go_simp
        have hd6 := below_size HD.out
        have l6_cc := blk_lt HA.out
        have l7_cc := blk_lt HL.out
        have l8_cc := blk_lt HM.out
        have l9_cc := blk_lt HF.out
        go_at_call 8
        refine (mailbox_Apply.calls k c0 c1 c2 cA ca c3 cB cb c4 3 x 0 0 0 none 0 [] none 0 [] r0 r1 r2 r3 r4 0 s6 _ (Kd.C_below HC3.out HD.out) ec3 (Kd.C_below HC4.out HD.out) ec4 (Kd.C_nil k70 _) (Nat.le_refl _) (Kd.C_nil (Kd.int .u8) _) (Nat.le_refl _) P1.out).mono ?_
        rintro e V010116 ⟨v3_, v4_, rfl, hv3_, hv4_, hb⟩
        obtain ⟨rA, ra, rfl⟩ := Kd.V_slice hv3_
        obtain ⟨rB, rb, rfl⟩ := Kd.V_slice hv4_
        have HrV := Aside0.mk hv3_
        have HrW := Aside0.mk hv4_
        clear hv3_ hv4_
        have hsz := below_size hb
        replace HA := Aside0.mk (blk_call HA.out hb)
        replace HL := Aside0.mk (blk_call HL.out hb)
        replace HM := Aside0.mk (blk_call HM.out hb)
        replace HF := Aside0.mk (blk_call HF.out hb)
        replace HD := Aside0.mk (below_step HD.out hb)
        clear hb
        refine hK.out _ _ trivial (fun _ _ => ⟨bc0 HA.out 0, bc0 HA.out 1, bc0 HA.out 2, bc0 HA.out 3, bc0 HA.out 4, (HD.out.cell hadl).trans Q0.out⟩) (fun hTV => ?_)
        clear hK K hTU
        have hTU := hTV (by kernel_rfl) (by decide)
        clear hTV
        try simp only [Act.put, List.setIfInBounds_toArray, List.set_cons_zero, List.set_cons_succ]
        refine till_free (i := 7) (v := ?_) rfl (by decide) (by kernel_rfl) (by kernel_rfl) (by kernel_rfl) (fun _ _ _ h => h) (Or.inl ⟨by rfl, ?_⟩) ⟨hTU.1, fun _ => hTU.2⟩ ?_
        rotate_left
        · (intro w_ _; go_simp; try with_reducible rfl)
        try simp only [Act.put, List.setIfInBounds_toArray, List.set_cons_zero, List.set_cons_succ]
        refine till_free (i := 8) (v := ?_) rfl (by decide) (by kernel_rfl) (by kernel_rfl) (by kernel_rfl) (fun _ _ _ h => h) (Or.inl ⟨by rfl, ?_⟩) ⟨hTU.1, fun _ => hTU.2⟩ ?_
        rotate_left
        · (intro w_ _; go_simp; try with_reducible rfl)
        try simp only [Act.put, List.setIfInBounds_toArray, List.set_cons_zero, List.set_cons_succ]
        refine till_free (i := 9) (v := ?_) rfl (by decide) (by kernel_rfl) (by kernel_rfl) (by kernel_rfl) (fun _ _ _ h => h) (Or.inl ⟨by rfl, ?_⟩) ⟨hTU.1, fun _ => hTU.2⟩ ?_
        rotate_left
        · (intro w_ _; go_simp; try with_reducible rfl)
        try simp only [Act.put, List.setIfInBounds_toArray, List.set_cons_zero, List.set_cons_succ]
        refine till_one (i := 12) (by kernel_rfl) rfl (fun K hK => ?_)
        have kHM := bc0 HM.out
        have fHM := bf0 HM.out
        have yHM := blk_lt HM.out
        have kHF := bc0 HF.out
        have fHF := bf0 HF.out
        have yHF := blk_lt HF.out
        go_simp
        clear kHM fHM yHM kHF fHF yHF
        replace HA := Aside0.mk (blk_far (p := ⟨wr.heap.size, 4, none⟩) (blk_far (p := ⟨wr.heap.size, 3, none⟩) (blk_far (p := ⟨wr.heap.size, 2, none⟩) (blk_far (p := ⟨wr.heap.size, 1, none⟩) (blk_far (p := ⟨wr.heap.size, 0, none⟩) HA.out (show w.heap.size ≠ wr.heap.size by omega) (.int .i64 r0)) (show w.heap.size ≠ wr.heap.size by omega) (.int .i64 r1)) (show w.heap.size ≠ wr.heap.size by omega) (.int .i64 r2)) (show w.heap.size ≠ wr.heap.size by omega) (.slice rA r3.length ra)) (show w.heap.size ≠ wr.heap.size by omega) (.slice rB r4.length rb))
        replace HL := Aside0.mk (blk_far (p := ⟨wr.heap.size, 4, none⟩) (blk_far (p := ⟨wr.heap.size, 3, none⟩) (blk_far (p := ⟨wr.heap.size, 2, none⟩) (blk_far (p := ⟨wr.heap.size, 1, none⟩) (blk_far (p := ⟨wr.heap.size, 0, none⟩) HL.out (show w.heap.size + 1 ≠ wr.heap.size by omega) (.int .i64 r0)) (show w.heap.size + 1 ≠ wr.heap.size by omega) (.int .i64 r1)) (show w.heap.size + 1 ≠ wr.heap.size by omega) (.int .i64 r2)) (show w.heap.size + 1 ≠ wr.heap.size by omega) (.slice rA r3.length ra)) (show w.heap.size + 1 ≠ wr.heap.size by omega) (.slice rB r4.length rb))
        replace HM : Aside0 (((((((V010116).setCell ⟨wr.heap.size, 0, none⟩ (.int .i64 r0)).setCell ⟨wr.heap.size, 1, none⟩ (.int .i64 r1)).setCell ⟨wr.heap.size, 2, none⟩ (.int .i64 r2)).setCell ⟨wr.heap.size, 3, none⟩ (.slice rA r3.length ra)).setCell ⟨wr.heap.size, 4, none⟩ (.slice rB r4.length rb)).heap[wr.heap.size]? = some (.cells #[(.int .i64 r0), (.int .i64 r1), (.int .i64 r2), (.slice rA r3.length ra), (.slice rB r4.length rb)] 25 (0, 0))) := Aside0.mk (blk_put (blk_put (blk_put (blk_put (blk_put HM.out 0 (.int .i64 r0) rfl) 1 (.int .i64 r1) rfl) 2 (.int .i64 r2) rfl) 3 (.slice rA r3.length ra) rfl) 4 (.slice rB r4.length rb) rfl)
        replace HF := Aside0.mk (blk_far (p := ⟨wr.heap.size, 4, none⟩) (blk_far (p := ⟨wr.heap.size, 3, none⟩) (blk_far (p := ⟨wr.heap.size, 2, none⟩) (blk_far (p := ⟨wr.heap.size, 1, none⟩) (blk_far (p := ⟨wr.heap.size, 0, none⟩) HF.out (show wr.heap.size + 1 ≠ wr.heap.size by omega) (.int .i64 r0)) (show wr.heap.size + 1 ≠ wr.heap.size by omega) (.int .i64 r1)) (show wr.heap.size + 1 ≠ wr.heap.size by omega) (.int .i64 r2)) (show wr.heap.size + 1 ≠ wr.heap.size by omega) (.slice rA r3.length ra)) (show wr.heap.size + 1 ≠ wr.heap.size by omega) (.slice rB r4.length rb))
        replace HrV := Aside0.mk (Kd.V_far (p := ⟨wr.heap.size, 4, none⟩) (Kd.V_far (p := ⟨wr.heap.size, 3, none⟩) (Kd.V_far (p := ⟨wr.heap.size, 2, none⟩) (Kd.V_far (p := ⟨wr.heap.size, 1, none⟩) (Kd.V_far (p := ⟨wr.heap.size, 0, none⟩) HrV.out (fun k_ (hk_ : V01011.heap.size ≤ k_) => by show k_ ≠ wr.heap.size; omega) (.int .i64 r0)) (fun k_ (hk_ : V01011.heap.size ≤ k_) => by show k_ ≠ wr.heap.size; omega) (.int .i64 r1)) (fun k_ (hk_ : V01011.heap.size ≤ k_) => by show k_ ≠ wr.heap.size; omega) (.int .i64 r2)) (fun k_ (hk_ : V01011.heap.size ≤ k_) => by show k_ ≠ wr.heap.size; omega) (.slice rA r3.length ra)) (fun k_ (hk_ : V01011.heap.size ≤ k_) => by show k_ ≠ wr.heap.size; omega) (.slice rB r4.length rb))
        replace HrW := Aside0.mk (Kd.V_far (p := ⟨wr.heap.size, 4, none⟩) (Kd.V_far (p := ⟨wr.heap.size, 3, none⟩) (Kd.V_far (p := ⟨wr.heap.size, 2, none⟩) (Kd.V_far (p := ⟨wr.heap.size, 1, none⟩) (Kd.V_far (p := ⟨wr.heap.size, 0, none⟩) HrW.out (fun k_ (hk_ : V01011.heap.size ≤ k_) => by show k_ ≠ wr.heap.size; omega) (.int .i64 r0)) (fun k_ (hk_ : V01011.heap.size ≤ k_) => by show k_ ≠ wr.heap.size; omega) (.int .i64 r1)) (fun k_ (hk_ : V01011.heap.size ≤ k_) => by show k_ ≠ wr.heap.size; omega) (.int .i64 r2)) (fun k_ (hk_ : V01011.heap.size ≤ k_) => by show k_ ≠ wr.heap.size; omega) (.slice rA r3.length ra)) (fun k_ (hk_ : V01011.heap.size ≤ k_) => by show k_ ≠ wr.heap.size; omega) (.slice rB r4.length rb))
        replace HD := Aside0.mk (below_set (j := 4) (v := (.slice rB r4.length rb)) (below_set (j := 3) (v := (.slice rA r3.length ra)) (below_set (j := 2) (v := (.int .i64 r2)) (below_set (j := 1) (v := (.int .i64 r1)) (below_set (j := 0) (v := (.int .i64 r0)) HD.out (show wr.heap.size ≤ wr.heap.size by omega)) (show wr.heap.size ≤ wr.heap.size by omega)) (show wr.heap.size ≤ wr.heap.size by omega)) (show wr.heap.size ≤ wr.heap.size by omega)) (show wr.heap.size ≤ wr.heap.size by omega))
        have hka : ((((((V010116).setCell ⟨wr.heap.size, 0, none⟩ (.int .i64 r0)).setCell ⟨wr.heap.size, 1, none⟩ (.int .i64 r1)).setCell ⟨wr.heap.size, 2, none⟩ (.int .i64 r2)).setCell ⟨wr.heap.size, 3, none⟩ (.slice rA r3.length ra)).setCell ⟨wr.heap.size, 4, none⟩ (.slice rB r4.length rb)).heap.size = V010116.heap.size := by simp
        generalize (((((V010116).setCell ⟨wr.heap.size, 0, none⟩ (.int .i64 r0)).setCell ⟨wr.heap.size, 1, none⟩ (.int .i64 r1)).setCell ⟨wr.heap.size, 2, none⟩ (.int .i64 r2)).setCell ⟨wr.heap.size, 3, none⟩ (.slice rA r3.length ra)).setCell ⟨wr.heap.size, 4, none⟩ (.slice rB r4.length rb) = V010116a at *
        refine hK.out _ _ trivial (fun _ _ => ⟨bc0 HA.out 0, bc0 HA.out 1, bc0 HA.out 2, bc0 HA.out 3, bc0 HA.out 4, (HD.out.cell hadl).trans Q0.out⟩) (fun hTV => ?_)
        clear hK K hTU
        have hTU := hTV (by kernel_rfl) (by decide)
        clear hTV
        try simp only [Act.put, List.setIfInBounds_toArray, List.set_cons_zero, List.set_cons_succ]
        refine till_one (i := 13) (by kernel_rfl) rfl (fun K hK => ?_)
        have kHM := bc0 HM.out
        have fHM := bf0 HM.out
        have yHM := blk_lt HM.out
        have kHF := bc0 HF.out
        have fHF := bf0 HF.out
        have yHF := blk_lt HF.out
        go_simp
        clear kHM fHM yHM kHF fHF yHF
        replace HA := Aside0.mk (blk_far (p := ⟨wr.heap.size + 1, 1, none⟩) (blk_far (p := ⟨wr.heap.size + 1, 0, none⟩) HA.out (show w.heap.size ≠ wr.heap.size + 1 by omega) (.int .i64 0)) (show w.heap.size ≠ wr.heap.size + 1 by omega) (.int .i64 s6))
        replace HL := Aside0.mk (blk_far (p := ⟨wr.heap.size + 1, 1, none⟩) (blk_far (p := ⟨wr.heap.size + 1, 0, none⟩) HL.out (show w.heap.size + 1 ≠ wr.heap.size + 1 by omega) (.int .i64 0)) (show w.heap.size + 1 ≠ wr.heap.size + 1 by omega) (.int .i64 s6))
        replace HM := Aside0.mk (blk_far (p := ⟨wr.heap.size + 1, 1, none⟩) (blk_far (p := ⟨wr.heap.size + 1, 0, none⟩) HM.out (show wr.heap.size ≠ wr.heap.size + 1 by omega) (.int .i64 0)) (show wr.heap.size ≠ wr.heap.size + 1 by omega) (.int .i64 s6))
        replace HF : Aside0 ((((V010116a).setCell ⟨wr.heap.size + 1, 0, none⟩ (.int .i64 0)).setCell ⟨wr.heap.size + 1, 1, none⟩ (.int .i64 s6)).heap[wr.heap.size + 1]? = some (.cells #[(.int .i64 0), (.int .i64 s6)] 34 (0, 0))) := Aside0.mk (blk_put (blk_put HF.out 0 (.int .i64 0) rfl) 1 (.int .i64 s6) rfl)
        replace HrV := Aside0.mk (Kd.V_far (p := ⟨wr.heap.size + 1, 1, none⟩) (Kd.V_far (p := ⟨wr.heap.size + 1, 0, none⟩) HrV.out (fun k_ (hk_ : V01011.heap.size ≤ k_) => by show k_ ≠ wr.heap.size + 1; omega) (.int .i64 0)) (fun k_ (hk_ : V01011.heap.size ≤ k_) => by show k_ ≠ wr.heap.size + 1; omega) (.int .i64 s6))
        replace HrW := Aside0.mk (Kd.V_far (p := ⟨wr.heap.size + 1, 1, none⟩) (Kd.V_far (p := ⟨wr.heap.size + 1, 0, none⟩) HrW.out (fun k_ (hk_ : V01011.heap.size ≤ k_) => by show k_ ≠ wr.heap.size + 1; omega) (.int .i64 0)) (fun k_ (hk_ : V01011.heap.size ≤ k_) => by show k_ ≠ wr.heap.size + 1; omega) (.int .i64 s6))
        replace HD := Aside0.mk (below_set (j := 1) (v := (.int .i64 s6)) (below_set (j := 0) (v := (.int .i64 0)) HD.out (show wr.heap.size ≤ wr.heap.size + 1 by omega)) (show wr.heap.size ≤ wr.heap.size + 1 by omega))
        have hkb : (((V010116a).setCell ⟨wr.heap.size + 1, 0, none⟩ (.int .i64 0)).setCell ⟨wr.heap.size + 1, 1, none⟩ (.int .i64 s6)).heap.size = V010116a.heap.size := by simp
        generalize ((V010116a).setCell ⟨wr.heap.size + 1, 0, none⟩ (.int .i64 0)).setCell ⟨wr.heap.size + 1, 1, none⟩ (.int .i64 s6) = V010116b at *
        refine hK.out _ _ trivial (fun _ h => absurd rfl h) (fun _ => ?_)
        clear hK K hTU
        refine till_done (by kernel_rfl) ?_ _
        have kHM := bc0 HM.out
        have fHM := bf0 HM.out
        have yHM := blk_lt HM.out
        have kHF := bc0 HF.out
        have fHF := bf0 HF.out
        have yHF := blk_lt HF.out
        have kHA := bc0 HA.out
        have fHA := bf0 HA.out
        have yHA := blk_lt HA.out
        go_wp2_with fail
        clear kHM fHM yHM kHF fHF yHF kHA fHA yHA
        have hdz := below_size HD.out
        have HG2 := Aside0.mk (grown_set (grown_set (grown_set (grown_set (grown_set (grown_step HG.out HD.out) 0 (.int .i64 r0)) 1 (.int .i64 r1)) 2 (.int .i64 r2)) 3 (.slice rA r3.length ra)) 4 (.slice rB r4.length rb))
        have HB2 := Aside0.mk (below_set (j := 4) (v := (.slice rB r4.length rb)) (below_set (j := 3) (v := (.slice rA r3.length ra)) (below_set (j := 2) (v := (.int .i64 r2)) (below_set (j := 1) (v := (.int .i64 r1)) (below_set (j := 0) (v := (.int .i64 r0)) (below_step HB.out HD.out) (Nat.le_refl _)) (Nat.le_refl _)) (Nat.le_refl _)) (Nat.le_refl _)) (Nat.le_refl _))
        replace HA := Aside0.mk (blk_put (blk_put (blk_put (blk_put (blk_put HA.out 0 (.int .i64 r0) rfl) 1 (.int .i64 r1) rfl) 2 (.int .i64 r2) rfl) 3 (.slice rA r3.length ra) rfl) 4 (.slice rB r4.length rb) rfl)
        replace HL := Aside0.mk (blk_far (p := ⟨w.heap.size, 4, none⟩) (blk_far (p := ⟨w.heap.size, 3, none⟩) (blk_far (p := ⟨w.heap.size, 2, none⟩) (blk_far (p := ⟨w.heap.size, 1, none⟩) (blk_far (p := ⟨w.heap.size, 0, none⟩) HL.out (show w.heap.size + 1 ≠ w.heap.size by omega) (.int .i64 r0)) (show w.heap.size + 1 ≠ w.heap.size by omega) (.int .i64 r1)) (show w.heap.size + 1 ≠ w.heap.size by omega) (.int .i64 r2)) (show w.heap.size + 1 ≠ w.heap.size by omega) (.slice rA r3.length ra)) (show w.heap.size + 1 ≠ w.heap.size by omega) (.slice rB r4.length rb))
        replace HrV := Aside0.mk (Kd.V_far (p := ⟨w.heap.size, 4, none⟩) (Kd.V_far (p := ⟨w.heap.size, 3, none⟩) (Kd.V_far (p := ⟨w.heap.size, 2, none⟩) (Kd.V_far (p := ⟨w.heap.size, 1, none⟩) (Kd.V_far (p := ⟨w.heap.size, 0, none⟩) HrV.out (fun k_ hk_ => by show k_ ≠ w.heap.size; omega) (.int .i64 r0)) (fun k_ hk_ => by show k_ ≠ w.heap.size; omega) (.int .i64 r1)) (fun k_ hk_ => by show k_ ≠ w.heap.size; omega) (.int .i64 r2)) (fun k_ hk_ => by show k_ ≠ w.heap.size; omega) (.slice rA r3.length ra)) (fun k_ hk_ => by show k_ ≠ w.heap.size; omega) (.slice rB r4.length rb))
        replace HrW := Aside0.mk (Kd.V_far (p := ⟨w.heap.size, 4, none⟩) (Kd.V_far (p := ⟨w.heap.size, 3, none⟩) (Kd.V_far (p := ⟨w.heap.size, 2, none⟩) (Kd.V_far (p := ⟨w.heap.size, 1, none⟩) (Kd.V_far (p := ⟨w.heap.size, 0, none⟩) HrW.out (fun k_ hk_ => by show k_ ≠ w.heap.size; omega) (.int .i64 r0)) (fun k_ hk_ => by show k_ ≠ w.heap.size; omega) (.int .i64 r1)) (fun k_ hk_ => by show k_ ≠ w.heap.size; omega) (.int .i64 r2)) (fun k_ hk_ => by show k_ ≠ w.heap.size; omega) (.slice rA r3.length ra)) (fun k_ hk_ => by show k_ ≠ w.heap.size; omega) (.slice rB r4.length rb))
        go_roundg (out.length - (i + 1))
        case measure => omega
        case rel => exact ⟨i + 1, r0, r1, r2, rA, ra, r3, rB, rb, r4, by omega, by omega, by go_num, HE2, HA, HL, ⟨Kd.F_now (Kd.V_F HrV.out)⟩, (Kd.V_at HrV.out).2.1, ⟨Kd.F_now (Kd.V_F HrW.out)⟩, (Kd.V_at HrW.out).2.1, HG2, HB2⟩
    · skip
      go_simp
      have hd11 := below_size HD.out
      have hs11 : (V0.alloc (.cells #[.int .i64 0, .int .i64 0] 34)).heap.size = wr.heap.size + 1 := by rw [World.size_alloc, hwd]
      have l1_wrheapsize := blk_lt HA.out
      have l2_wrheapsize := blk_lt HL.out
      replace HA := Aside0.mk (blk_later HA.out (.cells #[.int .i64 0, .int .i64 0] 34))
      replace HL := Aside0.mk (blk_later HL.out (.cells #[.int .i64 0, .int .i64 0] 34))
      replace HD := Aside0.mk (below_alloc HD.out (.cells #[.int .i64 0, .int .i64 0] 34))
      have HF := Aside0.mk (blk_at (w := V0) (.cells #[.int .i64 0, .int .i64 0] 34))
      rw [hwd] at HF l1_wrheapsize l2_wrheapsize
      clear hwd
      generalize V0.alloc (.cells #[.int .i64 0, .int .i64 0] 34) = V011 at *
      refine hK.out _ _ trivial (fun _ _ => ⟨bc0 HA.out 0, bc0 HA.out 1, bc0 HA.out 2, bc0 HA.out 3, bc0 HA.out 4, (HD.out.cell hadl).trans Q0.out⟩) (fun hTV => ?_)
      clear hK K hTU
      have hTU := hTV (by kernel_rfl) (by decide)
      clear hTV
      try simp only [Act.put, List.setIfInBounds_toArray, List.set_cons_zero, List.set_cons_succ]
      refine till_ready (rs := [6, 10]) (by kernel_rfl) (by simp) ?_
      refine each_cons rfl (fun K hK => ?_) (each_cons rfl (fun K hK => ?_) (each_nil))
      · skip
        go_simp
        have hd6 := below_size HD.out
        have l3_cc := blk_lt HA.out
        have l4_cc := blk_lt HL.out
        have l5_cc := blk_lt HF.out
        go_at_call 8
        refine (mailbox_Apply.calls k c0 c1 c2 cA ca c3 cB cb c4 3 x 0 0 0 none 0 [] none 0 [] r0 r1 r2 r3 r4 0 s6 _ (Kd.C_below HC3.out HD.out) ec3 (Kd.C_below HC4.out HD.out) ec4 (Kd.C_nil k70 _) (Nat.le_refl _) (Kd.C_nil (Kd.int .u8) _) (Nat.le_refl _) P1.out).mono ?_
        rintro e V0116 ⟨v3_, v4_, rfl, hv3_, hv4_, hb⟩
        obtain ⟨rA, ra, rfl⟩ := Kd.V_slice hv3_
        obtain ⟨rB, rb, rfl⟩ := Kd.V_slice hv4_
        have HrV := Aside0.mk hv3_
        have HrW := Aside0.mk hv4_
        clear hv3_ hv4_
        have hsz := below_size hb
        replace HA := Aside0.mk (blk_call HA.out hb)
        replace HL := Aside0.mk (blk_call HL.out hb)
        replace HF := Aside0.mk (blk_call HF.out hb)
        replace HD := Aside0.mk (below_step HD.out hb)
        clear hb
        refine hK.out _ _ trivial (fun _ _ => ⟨bc0 HA.out 0, bc0 HA.out 1, bc0 HA.out 2, bc0 HA.out 3, bc0 HA.out 4, (HD.out.cell hadl).trans Q0.out⟩) (fun hTV => ?_)
        clear hK K hTU
        have hTU := hTV (by kernel_rfl) (by decide)
        clear hTV
        try simp only [Act.put, List.setIfInBounds_toArray, List.set_cons_zero, List.set_cons_succ]
        refine till_free (i := 7) (v := ?_) rfl (by decide) (by kernel_rfl) (by kernel_rfl) (by kernel_rfl) (fun _ _ _ h => h) (Or.inl ⟨by rfl, ?_⟩) ⟨hTU.1, fun _ => hTU.2⟩ ?_
        rotate_left
        · (intro w_ _; go_simp; try with_reducible rfl)
        try simp only [Act.put, List.setIfInBounds_toArray, List.set_cons_zero, List.set_cons_succ]
        refine till_free (i := 8) (v := ?_) rfl (by decide) (by kernel_rfl) (by kernel_rfl) (by kernel_rfl) (fun _ _ _ h => h) (Or.inl ⟨by rfl, ?_⟩) ⟨hTU.1, fun _ => hTU.2⟩ ?_
        rotate_left
        · (intro w_ _; go_simp; try with_reducible rfl)
        try simp only [Act.put, List.setIfInBounds_toArray, List.set_cons_zero, List.set_cons_succ]
        refine till_free (i := 9) (v := ?_) rfl (by decide) (by kernel_rfl) (by kernel_rfl) (by kernel_rfl) (fun _ _ _ h => h) (Or.inl ⟨by rfl, ?_⟩) ⟨hTU.1, fun _ => hTU.2⟩ ?_
        rotate_left
        · (intro w_ _; go_simp; try with_reducible rfl)
        try simp only [Act.put, List.setIfInBounds_toArray, List.set_cons_zero, List.set_cons_succ]
        refine till_one (i := 10) (by kernel_rfl) rfl (fun K hK => ?_)
        go_simp
        have hd10 := below_size HD.out
        have l6_g10 := blk_lt HA.out
        have l7_g10 := blk_lt HL.out
        have l8_g10 := blk_lt HF.out
        replace HrV := Aside0.mk (Kd.V_mono (ok' := fun k_ => V011.heap.size ≤ k_ ∧ k_ ≠ V0116.heap.size) (Kd.V_elderB HrV.out V0116.heap.size (Nat.le_refl _)) (fun k_ hk_ => by have h1_ := hk_.1; have h2_ := hk_.2; omega))
        replace HrW := Aside0.mk (Kd.V_mono (ok' := fun k_ => V011.heap.size ≤ k_ ∧ k_ ≠ V0116.heap.size) (Kd.V_elderB HrW.out V0116.heap.size (Nat.le_refl _)) (fun k_ hk_ => by have h1_ := hk_.1; have h2_ := hk_.2; omega))
        replace HA := Aside0.mk (blk_later HA.out (.cells #[.int .i64 0, .int .i64 0, .int .i64 0, .slice none 0 0, .slice none 0 0] 25))
        replace HL := Aside0.mk (blk_later HL.out (.cells #[.int .i64 0, .int .i64 0, .int .i64 0, .slice none 0 0, .slice none 0 0] 25))
        replace HF := Aside0.mk (blk_later HF.out (.cells #[.int .i64 0, .int .i64 0, .int .i64 0, .slice none 0 0, .slice none 0 0] 25))
        replace HrV := Aside0.mk (Kd.V_alloc HrV.out (.cells #[.int .i64 0, .int .i64 0, .int .i64 0, .slice none 0 0, .slice none 0 0] 25))
        replace HrW := Aside0.mk (Kd.V_alloc HrW.out (.cells #[.int .i64 0, .int .i64 0, .int .i64 0, .slice none 0 0, .slice none 0 0] 25))
        replace HD := Aside0.mk (below_alloc HD.out (.cells #[.int .i64 0, .int .i64 0, .int .i64 0, .slice none 0 0, .slice none 0 0] 25))
        have HM := Aside0.mk (blk_at (w := V0116) (.cells #[.int .i64 0, .int .i64 0, .int .i64 0, .slice none 0 0, .slice none 0 0] 25))
        have hs10 : (V0116.alloc (.cells #[.int .i64 0, .int .i64 0, .int .i64 0, .slice none 0 0, .slice none 0 0] 25)).heap.size = V0116.heap.size + 1 := by simp
        generalize V0116.alloc (.cells #[.int .i64 0, .int .i64 0, .int .i64 0, .slice none 0 0, .slice none 0 0] 25) = V011610 at *
        generalize V0116.heap.size = g10 at *
        refine hK.out _ _ trivial (fun _ _ => ⟨bc0 HA.out 0, bc0 HA.out 1, bc0 HA.out 2, bc0 HA.out 3, bc0 HA.out 4, (HD.out.cell hadl).trans Q0.out⟩) (fun hTV => ?_)
        clear hK K hTU
        have hTU := hTV (by kernel_rfl) (by decide)
        clear hTV
        try simp only [Act.put, List.setIfInBounds_toArray, List.set_cons_zero, List.set_cons_succ]
        refine till_one (i := 12) (by kernel_rfl) rfl (fun K hK => ?_)
        have kHM := bc0 HM.out
        have fHM := bf0 HM.out
        have yHM := blk_lt HM.out
        have kHF := bc0 HF.out
        have fHF := bf0 HF.out
        have yHF := blk_lt HF.out
        go_simp
        clear kHM fHM yHM kHF fHF yHF
        replace HA := Aside0.mk (blk_far (p := ⟨g10, 4, none⟩) (blk_far (p := ⟨g10, 3, none⟩) (blk_far (p := ⟨g10, 2, none⟩) (blk_far (p := ⟨g10, 1, none⟩) (blk_far (p := ⟨g10, 0, none⟩) HA.out (show w.heap.size ≠ g10 by omega) (.int .i64 r0)) (show w.heap.size ≠ g10 by omega) (.int .i64 r1)) (show w.heap.size ≠ g10 by omega) (.int .i64 r2)) (show w.heap.size ≠ g10 by omega) (.slice rA r3.length ra)) (show w.heap.size ≠ g10 by omega) (.slice rB r4.length rb))
        replace HL := Aside0.mk (blk_far (p := ⟨g10, 4, none⟩) (blk_far (p := ⟨g10, 3, none⟩) (blk_far (p := ⟨g10, 2, none⟩) (blk_far (p := ⟨g10, 1, none⟩) (blk_far (p := ⟨g10, 0, none⟩) HL.out (show w.heap.size + 1 ≠ g10 by omega) (.int .i64 r0)) (show w.heap.size + 1 ≠ g10 by omega) (.int .i64 r1)) (show w.heap.size + 1 ≠ g10 by omega) (.int .i64 r2)) (show w.heap.size + 1 ≠ g10 by omega) (.slice rA r3.length ra)) (show w.heap.size + 1 ≠ g10 by omega) (.slice rB r4.length rb))
        replace HF := Aside0.mk (blk_far (p := ⟨g10, 4, none⟩) (blk_far (p := ⟨g10, 3, none⟩) (blk_far (p := ⟨g10, 2, none⟩) (blk_far (p := ⟨g10, 1, none⟩) (blk_far (p := ⟨g10, 0, none⟩) HF.out (show wr.heap.size ≠ g10 by omega) (.int .i64 r0)) (show wr.heap.size ≠ g10 by omega) (.int .i64 r1)) (show wr.heap.size ≠ g10 by omega) (.int .i64 r2)) (show wr.heap.size ≠ g10 by omega) (.slice rA r3.length ra)) (show wr.heap.size ≠ g10 by omega) (.slice rB r4.length rb))
        replace HM : Aside0 (((((((V011610).setCell ⟨g10, 0, none⟩ (.int .i64 r0)).setCell ⟨g10, 1, none⟩ (.int .i64 r1)).setCell ⟨g10, 2, none⟩ (.int .i64 r2)).setCell ⟨g10, 3, none⟩ (.slice rA r3.length ra)).setCell ⟨g10, 4, none⟩ (.slice rB r4.length rb)).heap[g10]? = some (.cells #[(.int .i64 r0), (.int .i64 r1), (.int .i64 r2), (.slice rA r3.length ra), (.slice rB r4.length rb)] 25 (0, 0))) := Aside0.mk (blk_put (blk_put (blk_put (blk_put (blk_put HM.out 0 (.int .i64 r0) rfl) 1 (.int .i64 r1) rfl) 2 (.int .i64 r2) rfl) 3 (.slice rA r3.length ra) rfl) 4 (.slice rB r4.length rb) rfl)
        replace HrV := Aside0.mk (Kd.V_far (p := ⟨g10, 4, none⟩) (Kd.V_far (p := ⟨g10, 3, none⟩) (Kd.V_far (p := ⟨g10, 2, none⟩) (Kd.V_far (p := ⟨g10, 1, none⟩) (Kd.V_far (p := ⟨g10, 0, none⟩) HrV.out (fun k_ (hk_ : V011.heap.size ≤ k_ ∧ k_ ≠ g10) => by show k_ ≠ g10; omega) (.int .i64 r0)) (fun k_ (hk_ : V011.heap.size ≤ k_ ∧ k_ ≠ g10) => by show k_ ≠ g10; omega) (.int .i64 r1)) (fun k_ (hk_ : V011.heap.size ≤ k_ ∧ k_ ≠ g10) => by show k_ ≠ g10; omega) (.int .i64 r2)) (fun k_ (hk_ : V011.heap.size ≤ k_ ∧ k_ ≠ g10) => by show k_ ≠ g10; omega) (.slice rA r3.length ra)) (fun k_ (hk_ : V011.heap.size ≤ k_ ∧ k_ ≠ g10) => by show k_ ≠ g10; omega) (.slice rB r4.length rb))
        replace HrW := Aside0.mk (Kd.V_far (p := ⟨g10, 4, none⟩) (Kd.V_far (p := ⟨g10, 3, none⟩) (Kd.V_far (p := ⟨g10, 2, none⟩) (Kd.V_far (p := ⟨g10, 1, none⟩) (Kd.V_far (p := ⟨g10, 0, none⟩) HrW.out (fun k_ (hk_ : V011.heap.size ≤ k_ ∧ k_ ≠ g10) => by show k_ ≠ g10; omega) (.int .i64 r0)) (fun k_ (hk_ : V011.heap.size ≤ k_ ∧ k_ ≠ g10) => by show k_ ≠ g10; omega) (.int .i64 r1)) (fun k_ (hk_ : V011.heap.size ≤ k_ ∧ k_ ≠ g10) => by show k_ ≠ g10; omega) (.int .i64 r2)) (fun k_ (hk_ : V011.heap.size ≤ k_ ∧ k_ ≠ g10) => by show k_ ≠ g10; omega) (.slice rA r3.length ra)) (fun k_ (hk_ : V011.heap.size ≤ k_ ∧ k_ ≠ g10) => by show k_ ≠ g10; omega) (.slice rB r4.length rb))
        replace HD := Aside0.mk (below_set (j := 4) (v := (.slice rB r4.length rb)) (below_set (j := 3) (v := (.slice rA r3.length ra)) (below_set (j := 2) (v := (.int .i64 r2)) (below_set (j := 1) (v := (.int .i64 r1)) (below_set (j := 0) (v := (.int .i64 r0)) HD.out (show wr.heap.size ≤ g10 by omega)) (show wr.heap.size ≤ g10 by omega)) (show wr.heap.size ≤ g10 by omega)) (show wr.heap.size ≤ g10 by omega)) (show wr.heap.size ≤ g10 by omega))
        have hka : ((((((V011610).setCell ⟨g10, 0, none⟩ (.int .i64 r0)).setCell ⟨g10, 1, none⟩ (.int .i64 r1)).setCell ⟨g10, 2, none⟩ (.int .i64 r2)).setCell ⟨g10, 3, none⟩ (.slice rA r3.length ra)).setCell ⟨g10, 4, none⟩ (.slice rB r4.length rb)).heap.size = V011610.heap.size := by simp
        generalize (((((V011610).setCell ⟨g10, 0, none⟩ (.int .i64 r0)).setCell ⟨g10, 1, none⟩ (.int .i64 r1)).setCell ⟨g10, 2, none⟩ (.int .i64 r2)).setCell ⟨g10, 3, none⟩ (.slice rA r3.length ra)).setCell ⟨g10, 4, none⟩ (.slice rB r4.length rb) = V011610a at *
        refine hK.out _ _ trivial (fun _ _ => ⟨bc0 HA.out 0, bc0 HA.out 1, bc0 HA.out 2, bc0 HA.out 3, bc0 HA.out 4, (HD.out.cell hadl).trans Q0.out⟩) (fun hTV => ?_)
        clear hK K hTU
        have hTU := hTV (by kernel_rfl) (by decide)
        clear hTV
        try simp only [Act.put, List.setIfInBounds_toArray, List.set_cons_zero, List.set_cons_succ]
        refine till_one (i := 13) (by kernel_rfl) rfl (fun K hK => ?_)
        have kHM := bc0 HM.out
        have fHM := bf0 HM.out
        have yHM := blk_lt HM.out
        have kHF := bc0 HF.out
        have fHF := bf0 HF.out
        have yHF := blk_lt HF.out
        go_simp
        clear kHM fHM yHM kHF fHF yHF
        replace HA := Aside0.mk (blk_far (p := ⟨wr.heap.size, 1, none⟩) (blk_far (p := ⟨wr.heap.size, 0, none⟩) HA.out (show w.heap.size ≠ wr.heap.size by omega) (.int .i64 0)) (show w.heap.size ≠ wr.heap.size by omega) (.int .i64 s6))
        replace HL := Aside0.mk (blk_far (p := ⟨wr.heap.size, 1, none⟩) (blk_far (p := ⟨wr.heap.size, 0, none⟩) HL.out (show w.heap.size + 1 ≠ wr.heap.size by omega) (.int .i64 0)) (show w.heap.size + 1 ≠ wr.heap.size by omega) (.int .i64 s6))
        replace HF : Aside0 ((((V011610a).setCell ⟨wr.heap.size, 0, none⟩ (.int .i64 0)).setCell ⟨wr.heap.size, 1, none⟩ (.int .i64 s6)).heap[wr.heap.size]? = some (.cells #[(.int .i64 0), (.int .i64 s6)] 34 (0, 0))) := Aside0.mk (blk_put (blk_put HF.out 0 (.int .i64 0) rfl) 1 (.int .i64 s6) rfl)
        replace HM := Aside0.mk (blk_far (p := ⟨wr.heap.size, 1, none⟩) (blk_far (p := ⟨wr.heap.size, 0, none⟩) HM.out (show g10 ≠ wr.heap.size by omega) (.int .i64 0)) (show g10 ≠ wr.heap.size by omega) (.int .i64 s6))
        replace HrV := Aside0.mk (Kd.V_far (p := ⟨wr.heap.size, 1, none⟩) (Kd.V_far (p := ⟨wr.heap.size, 0, none⟩) HrV.out (fun k_ (hk_ : V011.heap.size ≤ k_ ∧ k_ ≠ g10) => by show k_ ≠ wr.heap.size; omega) (.int .i64 0)) (fun k_ (hk_ : V011.heap.size ≤ k_ ∧ k_ ≠ g10) => by show k_ ≠ wr.heap.size; omega) (.int .i64 s6))
        replace HrW := Aside0.mk (Kd.V_far (p := ⟨wr.heap.size, 1, none⟩) (Kd.V_far (p := ⟨wr.heap.size, 0, none⟩) HrW.out (fun k_ (hk_ : V011.heap.size ≤ k_ ∧ k_ ≠ g10) => by show k_ ≠ wr.heap.size; omega) (.int .i64 0)) (fun k_ (hk_ : V011.heap.size ≤ k_ ∧ k_ ≠ g10) => by show k_ ≠ wr.heap.size; omega) (.int .i64 s6))
        replace HD := Aside0.mk (below_set (j := 1) (v := (.int .i64 s6)) (below_set (j := 0) (v := (.int .i64 0)) HD.out (show wr.heap.size ≤ wr.heap.size by omega)) (show wr.heap.size ≤ wr.heap.size by omega))
        have hkb : (((V011610a).setCell ⟨wr.heap.size, 0, none⟩ (.int .i64 0)).setCell ⟨wr.heap.size, 1, none⟩ (.int .i64 s6)).heap.size = V011610a.heap.size := by simp
        generalize ((V011610a).setCell ⟨wr.heap.size, 0, none⟩ (.int .i64 0)).setCell ⟨wr.heap.size, 1, none⟩ (.int .i64 s6) = V011610b at *
        refine hK.out _ _ trivial (fun _ h => absurd rfl h) (fun _ => ?_)
        clear hK K hTU
        refine till_done (by kernel_rfl) ?_ _
        have kHM := bc0 HM.out
        have fHM := bf0 HM.out
        have yHM := blk_lt HM.out
        have kHF := bc0 HF.out
        have fHF := bf0 HF.out
        have yHF := blk_lt HF.out
        have kHA := bc0 HA.out
        have fHA := bf0 HA.out
        have yHA := blk_lt HA.out
        go_wp2_with fail
        clear kHM fHM yHM kHF fHF yHF kHA fHA yHA
        have hdz := below_size HD.out
        have HG2 := Aside0.mk (grown_set (grown_set (grown_set (grown_set (grown_set (grown_step HG.out HD.out) 0 (.int .i64 r0)) 1 (.int .i64 r1)) 2 (.int .i64 r2)) 3 (.slice rA r3.length ra)) 4 (.slice rB r4.length rb))
        have HB2 := Aside0.mk (below_set (j := 4) (v := (.slice rB r4.length rb)) (below_set (j := 3) (v := (.slice rA r3.length ra)) (below_set (j := 2) (v := (.int .i64 r2)) (below_set (j := 1) (v := (.int .i64 r1)) (below_set (j := 0) (v := (.int .i64 r0)) (below_step HB.out HD.out) (Nat.le_refl _)) (Nat.le_refl _)) (Nat.le_refl _)) (Nat.le_refl _)) (Nat.le_refl _))
        replace HA := Aside0.mk (blk_put (blk_put (blk_put (blk_put (blk_put HA.out 0 (.int .i64 r0) rfl) 1 (.int .i64 r1) rfl) 2 (.int .i64 r2) rfl) 3 (.slice rA r3.length ra) rfl) 4 (.slice rB r4.length rb) rfl)
        replace HL := Aside0.mk (blk_far (p := ⟨w.heap.size, 4, none⟩) (blk_far (p := ⟨w.heap.size, 3, none⟩) (blk_far (p := ⟨w.heap.size, 2, none⟩) (blk_far (p := ⟨w.heap.size, 1, none⟩) (blk_far (p := ⟨w.heap.size, 0, none⟩) HL.out (show w.heap.size + 1 ≠ w.heap.size by omega) (.int .i64 r0)) (show w.heap.size + 1 ≠ w.heap.size by omega) (.int .i64 r1)) (show w.heap.size + 1 ≠ w.heap.size by omega) (.int .i64 r2)) (show w.heap.size + 1 ≠ w.heap.size by omega) (.slice rA r3.length ra)) (show w.heap.size + 1 ≠ w.heap.size by omega) (.slice rB r4.length rb))
        replace HrV := Aside0.mk (Kd.V_far (p := ⟨w.heap.size, 4, none⟩) (Kd.V_far (p := ⟨w.heap.size, 3, none⟩) (Kd.V_far (p := ⟨w.heap.size, 2, none⟩) (Kd.V_far (p := ⟨w.heap.size, 1, none⟩) (Kd.V_far (p := ⟨w.heap.size, 0, none⟩) HrV.out (fun k_ hk_ => by show k_ ≠ w.heap.size; omega) (.int .i64 r0)) (fun k_ hk_ => by show k_ ≠ w.heap.size; omega) (.int .i64 r1)) (fun k_ hk_ => by show k_ ≠ w.heap.size; omega) (.int .i64 r2)) (fun k_ hk_ => by show k_ ≠ w.heap.size; omega) (.slice rA r3.length ra)) (fun k_ hk_ => by show k_ ≠ w.heap.size; omega) (.slice rB r4.length rb))
        replace HrW := Aside0.mk (Kd.V_far (p := ⟨w.heap.size, 4, none⟩) (Kd.V_far (p := ⟨w.heap.size, 3, none⟩) (Kd.V_far (p := ⟨w.heap.size, 2, none⟩) (Kd.V_far (p := ⟨w.heap.size, 1, none⟩) (Kd.V_far (p := ⟨w.heap.size, 0, none⟩) HrW.out (fun k_ hk_ => by show k_ ≠ w.heap.size; omega) (.int .i64 r0)) (fun k_ hk_ => by show k_ ≠ w.heap.size; omega) (.int .i64 r1)) (fun k_ hk_ => by show k_ ≠ w.heap.size; omega) (.int .i64 r2)) (fun k_ hk_ => by show k_ ≠ w.heap.size; omega) (.slice rA r3.length ra)) (fun k_ hk_ => by show k_ ≠ w.heap.size; omega) (.slice rB r4.length rb))
        go_roundg (out.length - (i + 1))
        case measure => omega
        case rel => exact ⟨i + 1, r0, r1, r2, rA, ra, r3, rB, rb, r4, by omega, by omega, by go_num, HE2, HA, HL, ⟨Kd.F_now (Kd.V_F HrV.out)⟩, (Kd.V_at HrV.out).2.1, ⟨Kd.F_now (Kd.V_F HrW.out)⟩, (Kd.V_at HrW.out).2.1, HG2, HB2⟩
      · skip
        go_simp
        have hd10 := below_size HD.out
        have l3_wrheapsize1 := blk_lt HA.out
        have l4_wrheapsize1 := blk_lt HL.out
        have l5_wrheapsize1 := blk_lt HF.out
        replace HA := Aside0.mk (blk_later HA.out (.cells #[.int .i64 0, .int .i64 0, .int .i64 0, .slice none 0 0, .slice none 0 0] 25))
        replace HL := Aside0.mk (blk_later HL.out (.cells #[.int .i64 0, .int .i64 0, .int .i64 0, .slice none 0 0, .slice none 0 0] 25))
        replace HF := Aside0.mk (blk_later HF.out (.cells #[.int .i64 0, .int .i64 0, .int .i64 0, .slice none 0 0, .slice none 0 0] 25))
        replace HD := Aside0.mk (below_alloc HD.out (.cells #[.int .i64 0, .int .i64 0, .int .i64 0, .slice none 0 0, .slice none 0 0] 25))
        have HM := Aside0.mk (blk_at (w := V011) (.cells #[.int .i64 0, .int .i64 0, .int .i64 0, .slice none 0 0, .slice none 0 0] 25))
        rw [hs11] at HM l3_wrheapsize1 l4_wrheapsize1 l5_wrheapsize1
        clear hs11
        generalize V011.alloc (.cells #[.int .i64 0, .int .i64 0, .int .i64 0, .slice none 0 0, .slice none 0 0] 25) = V01110 at *
        refine hK.out _ _ trivial (fun _ _ => ⟨bc0 HA.out 0, bc0 HA.out 1, bc0 HA.out 2, bc0 HA.out 3, bc0 HA.out 4, (HD.out.cell hadl).trans Q0.out⟩) (fun hTV => ?_)
        clear hK K hTU
        have hTU := hTV (by kernel_rfl) (by decide)
        clear hTV
        try simp only [Act.put, List.setIfInBounds_toArray, List.set_cons_zero, List.set_cons_succ]
        refine till_one (i := 6) (by kernel_rfl) rfl (fun K hK => ?_)
        go_simp
        have hd6 := below_size HD.out
        have l6_cc := blk_lt HA.out
        have l7_cc := blk_lt HL.out
        have l8_cc := blk_lt HF.out
        have l9_cc := blk_lt HM.out
        go_at_call 8
        refine (mailbox_Apply.calls k c0 c1 c2 cA ca c3 cB cb c4 3 x 0 0 0 none 0 [] none 0 [] r0 r1 r2 r3 r4 0 s6 _ (Kd.C_below HC3.out HD.out) ec3 (Kd.C_below HC4.out HD.out) ec4 (Kd.C_nil k70 _) (Nat.le_refl _) (Kd.C_nil (Kd.int .u8) _) (Nat.le_refl _) P1.out).mono ?_
        rintro e V011106 ⟨v3_, v4_, rfl, hv3_, hv4_, hb⟩
        obtain ⟨rA, ra, rfl⟩ := Kd.V_slice hv3_
        obtain ⟨rB, rb, rfl⟩ := Kd.V_slice hv4_
        have HrV := Aside0.mk hv3_
        have HrW := Aside0.mk hv4_
        clear hv3_ hv4_
        have hsz := below_size hb
        replace HA := Aside0.mk (blk_call HA.out hb)
        replace HL := Aside0.mk (blk_call HL.out hb)
        replace HF := Aside0.mk (blk_call HF.out hb)
        replace HM := Aside0.mk (blk_call HM.out hb)
        replace HD := Aside0.mk (below_step HD.out hb)
        clear hb
        refine hK.out _ _ trivial (fun _ _ => ⟨bc0 HA.out 0, bc0 HA.out 1, bc0 HA.out 2, bc0 HA.out 3, bc0 HA.out 4, (HD.out.cell hadl).trans Q0.out⟩) (fun hTV => ?_)
        clear hK K hTU
        have hTU := hTV (by kernel_rfl) (by decide)
        clear hTV
        try simp only [Act.put, List.setIfInBounds_toArray, List.set_cons_zero, List.set_cons_succ]
        refine till_free (i := 7) (v := ?_) rfl (by decide) (by kernel_rfl) (by kernel_rfl) (by kernel_rfl) (fun _ _ _ h => h) (Or.inl ⟨by rfl, ?_⟩) ⟨hTU.1, fun _ => hTU.2⟩ ?_
        rotate_left
        · (intro w_ _; go_simp; try with_reducible rfl)
        try simp only [Act.put, List.setIfInBounds_toArray, List.set_cons_zero, List.set_cons_succ]
        refine till_free (i := 8) (v := ?_) rfl (by decide) (by kernel_rfl) (by kernel_rfl) (by kernel_rfl) (fun _ _ _ h => h) (Or.inl ⟨by rfl, ?_⟩) ⟨hTU.1, fun _ => hTU.2⟩ ?_
        rotate_left
        · (intro w_ _; go_simp; try with_reducible rfl)
        try simp only [Act.put, List.setIfInBounds_toArray, List.set_cons_zero, List.set_cons_succ]
        refine till_free (i := 9) (v := ?_) rfl (by decide) (by kernel_rfl) (by kernel_rfl) (by kernel_rfl) (fun _ _ _ h => h) (Or.inl ⟨by rfl, ?_⟩) ⟨hTU.1, fun _ => hTU.2⟩ ?_
        rotate_left
        · (intro w_ _; go_simp; try with_reducible rfl)
        try simp only [Act.put, List.setIfInBounds_toArray, List.set_cons_zero, List.set_cons_succ]
        refine till_one (i := 12) (by kernel_rfl) rfl (fun K hK => ?_)
        have kHM := bc0 HM.out
        have fHM := bf0 HM.out
        have yHM := blk_lt HM.out
        have kHF := bc0 HF.out
        have fHF := bf0 HF.out
        have yHF := blk_lt HF.out
        go_simp
        clear kHM fHM yHM kHF fHF yHF
        replace HA := Aside0.mk (blk_far (p := ⟨wr.heap.size + 1, 4, none⟩) (blk_far (p := ⟨wr.heap.size + 1, 3, none⟩) (blk_far (p := ⟨wr.heap.size + 1, 2, none⟩) (blk_far (p := ⟨wr.heap.size + 1, 1, none⟩) (blk_far (p := ⟨wr.heap.size + 1, 0, none⟩) HA.out (show w.heap.size ≠ wr.heap.size + 1 by omega) (.int .i64 r0)) (show w.heap.size ≠ wr.heap.size + 1 by omega) (.int .i64 r1)) (show w.heap.size ≠ wr.heap.size + 1 by omega) (.int .i64 r2)) (show w.heap.size ≠ wr.heap.size + 1 by omega) (.slice rA r3.length ra)) (show w.heap.size ≠ wr.heap.size + 1 by omega) (.slice rB r4.length rb))
        replace HL := Aside0.mk (blk_far (p := ⟨wr.heap.size + 1, 4, none⟩) (blk_far (p := ⟨wr.heap.size + 1, 3, none⟩) (blk_far (p := ⟨wr.heap.size + 1, 2, none⟩) (blk_far (p := ⟨wr.heap.size + 1, 1, none⟩) (blk_far (p := ⟨wr.heap.size + 1, 0, none⟩) HL.out (show w.heap.size + 1 ≠ wr.heap.size + 1 by omega) (.int .i64 r0)) (show w.heap.size + 1 ≠ wr.heap.size + 1 by omega) (.int .i64 r1)) (show w.heap.size + 1 ≠ wr.heap.size + 1 by omega) (.int .i64 r2)) (show w.heap.size + 1 ≠ wr.heap.size + 1 by omega) (.slice rA r3.length ra)) (show w.heap.size + 1 ≠ wr.heap.size + 1 by omega) (.slice rB r4.length rb))
        replace HF := Aside0.mk (blk_far (p := ⟨wr.heap.size + 1, 4, none⟩) (blk_far (p := ⟨wr.heap.size + 1, 3, none⟩) (blk_far (p := ⟨wr.heap.size + 1, 2, none⟩) (blk_far (p := ⟨wr.heap.size + 1, 1, none⟩) (blk_far (p := ⟨wr.heap.size + 1, 0, none⟩) HF.out (show wr.heap.size ≠ wr.heap.size + 1 by omega) (.int .i64 r0)) (show wr.heap.size ≠ wr.heap.size + 1 by omega) (.int .i64 r1)) (show wr.heap.size ≠ wr.heap.size + 1 by omega) (.int .i64 r2)) (show wr.heap.size ≠ wr.heap.size + 1 by omega) (.slice rA r3.length ra)) (show wr.heap.size ≠ wr.heap.size + 1 by omega) (.slice rB r4.length rb))
        replace HM : Aside0 (((((((V011106).setCell ⟨wr.heap.size + 1, 0, none⟩ (.int .i64 r0)).setCell ⟨wr.heap.size + 1, 1, none⟩ (.int .i64 r1)).setCell ⟨wr.heap.size + 1, 2, none⟩ (.int .i64 r2)).setCell ⟨wr.heap.size + 1, 3, none⟩ (.slice rA r3.length ra)).setCell ⟨wr.heap.size + 1, 4, none⟩ (.slice rB r4.length rb)).heap[wr.heap.size + 1]? = some (.cells #[(.int .i64 r0), (.int .i64 r1), (.int .i64 r2), (.slice rA r3.length ra), (.slice rB r4.length rb)] 25 (0, 0))) := Aside0.mk (blk_put (blk_put (blk_put (blk_put (blk_put HM.out 0 (.int .i64 r0) rfl) 1 (.int .i64 r1) rfl) 2 (.int .i64 r2) rfl) 3 (.slice rA r3.length ra) rfl) 4 (.slice rB r4.length rb) rfl)
        replace HrV := Aside0.mk (Kd.V_far (p := ⟨wr.heap.size + 1, 4, none⟩) (Kd.V_far (p := ⟨wr.heap.size + 1, 3, none⟩) (Kd.V_far (p := ⟨wr.heap.size + 1, 2, none⟩) (Kd.V_far (p := ⟨wr.heap.size + 1, 1, none⟩) (Kd.V_far (p := ⟨wr.heap.size + 1, 0, none⟩) HrV.out (fun k_ (hk_ : V01110.heap.size ≤ k_) => by show k_ ≠ wr.heap.size + 1; omega) (.int .i64 r0)) (fun k_ (hk_ : V01110.heap.size ≤ k_) => by show k_ ≠ wr.heap.size + 1; omega) (.int .i64 r1)) (fun k_ (hk_ : V01110.heap.size ≤ k_) => by show k_ ≠ wr.heap.size + 1; omega) (.int .i64 r2)) (fun k_ (hk_ : V01110.heap.size ≤ k_) => by show k_ ≠ wr.heap.size + 1; omega) (.slice rA r3.length ra)) (fun k_ (hk_ : V01110.heap.size ≤ k_) => by show k_ ≠ wr.heap.size + 1; omega) (.slice rB r4.length rb))
        replace HrW := Aside0.mk (Kd.V_far (p := ⟨wr.heap.size + 1, 4, none⟩) (Kd.V_far (p := ⟨wr.heap.size + 1, 3, none⟩) (Kd.V_far (p := ⟨wr.heap.size + 1, 2, none⟩) (Kd.V_far (p := ⟨wr.heap.size + 1, 1, none⟩) (Kd.V_far (p := ⟨wr.heap.size + 1, 0, none⟩) HrW.out (fun k_ (hk_ : V01110.heap.size ≤ k_) => by show k_ ≠ wr.heap.size + 1; omega) (.int .i64 r0)) (fun k_ (hk_ : V01110.heap.size ≤ k_) => by show k_ ≠ wr.heap.size + 1; omega) (.int .i64 r1)) (fun k_ (hk_ : V01110.heap.size ≤ k_) => by show k_ ≠ wr.heap.size + 1; omega) (.int .i64 r2)) (fun k_ (hk_ : V01110.heap.size ≤ k_) => by show k_ ≠ wr.heap.size + 1; omega) (.slice rA r3.length ra)) (fun k_ (hk_ : V01110.heap.size ≤ k_) => by show k_ ≠ wr.heap.size + 1; omega) (.slice rB r4.length rb))
        replace HD := Aside0.mk (below_set (j := 4) (v := (.slice rB r4.length rb)) (below_set (j := 3) (v := (.slice rA r3.length ra)) (below_set (j := 2) (v := (.int .i64 r2)) (below_set (j := 1) (v := (.int .i64 r1)) (below_set (j := 0) (v := (.int .i64 r0)) HD.out (show wr.heap.size ≤ wr.heap.size + 1 by omega)) (show wr.heap.size ≤ wr.heap.size + 1 by omega)) (show wr.heap.size ≤ wr.heap.size + 1 by omega)) (show wr.heap.size ≤ wr.heap.size + 1 by omega)) (show wr.heap.size ≤ wr.heap.size + 1 by omega))
        have hka : ((((((V011106).setCell ⟨wr.heap.size + 1, 0, none⟩ (.int .i64 r0)).setCell ⟨wr.heap.size + 1, 1, none⟩ (.int .i64 r1)).setCell ⟨wr.heap.size + 1, 2, none⟩ (.int .i64 r2)).setCell ⟨wr.heap.size + 1, 3, none⟩ (.slice rA r3.length ra)).setCell ⟨wr.heap.size + 1, 4, none⟩ (.slice rB r4.length rb)).heap.size = V011106.heap.size := by simp
        generalize (((((V011106).setCell ⟨wr.heap.size + 1, 0, none⟩ (.int .i64 r0)).setCell ⟨wr.heap.size + 1, 1, none⟩ (.int .i64 r1)).setCell ⟨wr.heap.size + 1, 2, none⟩ (.int .i64 r2)).setCell ⟨wr.heap.size + 1, 3, none⟩ (.slice rA r3.length ra)).setCell ⟨wr.heap.size + 1, 4, none⟩ (.slice rB r4.length rb) = V011106a at *
        refine hK.out _ _ trivial (fun _ _ => ⟨bc0 HA.out 0, bc0 HA.out 1, bc0 HA.out 2, bc0 HA.out 3, bc0 HA.out 4, (HD.out.cell hadl).trans Q0.out⟩) (fun hTV => ?_)
        clear hK K hTU
        have hTU := hTV (by kernel_rfl) (by decide)
        clear hTV
        try simp only [Act.put, List.setIfInBounds_toArray, List.set_cons_zero, List.set_cons_succ]
        refine till_one (i := 13) (by kernel_rfl) rfl (fun K hK => ?_)
        have kHM := bc0 HM.out
        have fHM := bf0 HM.out
        have yHM := blk_lt HM.out
        have kHF := bc0 HF.out
        have fHF := bf0 HF.out
        have yHF := blk_lt HF.out
        go_simp
        clear kHM fHM yHM kHF fHF yHF
        replace HA := Aside0.mk (blk_far (p := ⟨wr.heap.size, 1, none⟩) (blk_far (p := ⟨wr.heap.size, 0, none⟩) HA.out (show w.heap.size ≠ wr.heap.size by omega) (.int .i64 0)) (show w.heap.size ≠ wr.heap.size by omega) (.int .i64 s6))
        replace HL := Aside0.mk (blk_far (p := ⟨wr.heap.size, 1, none⟩) (blk_far (p := ⟨wr.heap.size, 0, none⟩) HL.out (show w.heap.size + 1 ≠ wr.heap.size by omega) (.int .i64 0)) (show w.heap.size + 1 ≠ wr.heap.size by omega) (.int .i64 s6))
        replace HF : Aside0 ((((V011106a).setCell ⟨wr.heap.size, 0, none⟩ (.int .i64 0)).setCell ⟨wr.heap.size, 1, none⟩ (.int .i64 s6)).heap[wr.heap.size]? = some (.cells #[(.int .i64 0), (.int .i64 s6)] 34 (0, 0))) := Aside0.mk (blk_put (blk_put HF.out 0 (.int .i64 0) rfl) 1 (.int .i64 s6) rfl)
        replace HM := Aside0.mk (blk_far (p := ⟨wr.heap.size, 1, none⟩) (blk_far (p := ⟨wr.heap.size, 0, none⟩) HM.out (show wr.heap.size + 1 ≠ wr.heap.size by omega) (.int .i64 0)) (show wr.heap.size + 1 ≠ wr.heap.size by omega) (.int .i64 s6))
        replace HrV := Aside0.mk (Kd.V_far (p := ⟨wr.heap.size, 1, none⟩) (Kd.V_far (p := ⟨wr.heap.size, 0, none⟩) HrV.out (fun k_ (hk_ : V01110.heap.size ≤ k_) => by show k_ ≠ wr.heap.size; omega) (.int .i64 0)) (fun k_ (hk_ : V01110.heap.size ≤ k_) => by show k_ ≠ wr.heap.size; omega) (.int .i64 s6))
        replace HrW := Aside0.mk (Kd.V_far (p := ⟨wr.heap.size, 1, none⟩) (Kd.V_far (p := ⟨wr.heap.size, 0, none⟩) HrW.out (fun k_ (hk_ : V01110.heap.size ≤ k_) => by show k_ ≠ wr.heap.size; omega) (.int .i64 0)) (fun k_ (hk_ : V01110.heap.size ≤ k_) => by show k_ ≠ wr.heap.size; omega) (.int .i64 s6))
        replace HD := Aside0.mk (below_set (j := 1) (v := (.int .i64 s6)) (below_set (j := 0) (v := (.int .i64 0)) HD.out (show wr.heap.size ≤ wr.heap.size by omega)) (show wr.heap.size ≤ wr.heap.size by omega))
        have hkb : (((V011106a).setCell ⟨wr.heap.size, 0, none⟩ (.int .i64 0)).setCell ⟨wr.heap.size, 1, none⟩ (.int .i64 s6)).heap.size = V011106a.heap.size := by simp
        generalize ((V011106a).setCell ⟨wr.heap.size, 0, none⟩ (.int .i64 0)).setCell ⟨wr.heap.size, 1, none⟩ (.int .i64 s6) = V011106b at *
        refine hK.out _ _ trivial (fun _ h => absurd rfl h) (fun _ => ?_)
        clear hK K hTU
        refine till_done (by kernel_rfl) ?_ _
        have kHM := bc0 HM.out
        have fHM := bf0 HM.out
        have yHM := blk_lt HM.out
        have kHF := bc0 HF.out
        have fHF := bf0 HF.out
        have yHF := blk_lt HF.out
        have kHA := bc0 HA.out
        have fHA := bf0 HA.out
        have yHA := blk_lt HA.out
        go_wp2_with fail
        clear kHM fHM yHM kHF fHF yHF kHA fHA yHA
        have hdz := below_size HD.out
        have HG2 := Aside0.mk (grown_set (grown_set (grown_set (grown_set (grown_set (grown_step HG.out HD.out) 0 (.int .i64 r0)) 1 (.int .i64 r1)) 2 (.int .i64 r2)) 3 (.slice rA r3.length ra)) 4 (.slice rB r4.length rb))
        have HB2 := Aside0.mk (below_set (j := 4) (v := (.slice rB r4.length rb)) (below_set (j := 3) (v := (.slice rA r3.length ra)) (below_set (j := 2) (v := (.int .i64 r2)) (below_set (j := 1) (v := (.int .i64 r1)) (below_set (j := 0) (v := (.int .i64 r0)) (below_step HB.out HD.out) (Nat.le_refl _)) (Nat.le_refl _)) (Nat.le_refl _)) (Nat.le_refl _)) (Nat.le_refl _))
        replace HA := Aside0.mk (blk_put (blk_put (blk_put (blk_put (blk_put HA.out 0 (.int .i64 r0) rfl) 1 (.int .i64 r1) rfl) 2 (.int .i64 r2) rfl) 3 (.slice rA r3.length ra) rfl) 4 (.slice rB r4.length rb) rfl)
        replace HL := Aside0.mk (blk_far (p := ⟨w.heap.size, 4, none⟩) (blk_far (p := ⟨w.heap.size, 3, none⟩) (blk_far (p := ⟨w.heap.size, 2, none⟩) (blk_far (p := ⟨w.heap.size, 1, none⟩) (blk_far (p := ⟨w.heap.size, 0, none⟩) HL.out (show w.heap.size + 1 ≠ w.heap.size by omega) (.int .i64 r0)) (show w.heap.size + 1 ≠ w.heap.size by omega) (.int .i64 r1)) (show w.heap.size + 1 ≠ w.heap.size by omega) (.int .i64 r2)) (show w.heap.size + 1 ≠ w.heap.size by omega) (.slice rA r3.length ra)) (show w.heap.size + 1 ≠ w.heap.size by omega) (.slice rB r4.length rb))
        replace HrV := Aside0.mk (Kd.V_far (p := ⟨w.heap.size, 4, none⟩) (Kd.V_far (p := ⟨w.heap.size, 3, none⟩) (Kd.V_far (p := ⟨w.heap.size, 2, none⟩) (Kd.V_far (p := ⟨w.heap.size, 1, none⟩) (Kd.V_far (p := ⟨w.heap.size, 0, none⟩) HrV.out (fun k_ hk_ => by show k_ ≠ w.heap.size; omega) (.int .i64 r0)) (fun k_ hk_ => by show k_ ≠ w.heap.size; omega) (.int .i64 r1)) (fun k_ hk_ => by show k_ ≠ w.heap.size; omega) (.int .i64 r2)) (fun k_ hk_ => by show k_ ≠ w.heap.size; omega) (.slice rA r3.length ra)) (fun k_ hk_ => by show k_ ≠ w.heap.size; omega) (.slice rB r4.length rb))
        replace HrW := Aside0.mk (Kd.V_far (p := ⟨w.heap.size, 4, none⟩) (Kd.V_far (p := ⟨w.heap.size, 3, none⟩) (Kd.V_far (p := ⟨w.heap.size, 2, none⟩) (Kd.V_far (p := ⟨w.heap.size, 1, none⟩) (Kd.V_far (p := ⟨w.heap.size, 0, none⟩) HrW.out (fun k_ hk_ => by show k_ ≠ w.heap.size; omega) (.int .i64 r0)) (fun k_ hk_ => by show k_ ≠ w.heap.size; omega) (.int .i64 r1)) (fun k_ hk_ => by show k_ ≠ w.heap.size; omega) (.int .i64 r2)) (fun k_ hk_ => by show k_ ≠ w.heap.size; omega) (.slice rA r3.length ra)) (fun k_ hk_ => by show k_ ≠ w.heap.size; omega) (.slice rB r4.length rb))
        go_roundg (out.length - (i + 1))
        case measure => omega
        case rel => exact ⟨i + 1, r0, r1, r2, rA, ra, r3, rB, rb, r4, by omega, by omega, by go_num, HE2, HA, HL, ⟨Kd.F_now (Kd.V_F HrV.out)⟩, (Kd.V_at HrV.out).2.1, ⟨Kd.F_now (Kd.V_F HrW.out)⟩, (Kd.V_at HrW.out).2.1, HG2, HB2⟩
  · obtain rfl : i = out.length := by omega
    have HE1 := HE.out
    clear HE
    rw [List.drop_length] at HE1
    simp only [removeAll, Option.some.injEq, Prod.mk.injEq] at HE1
    obtain ⟨rfl, rfl, rfl, rfl, rfl⟩ := HE1
    have i0 : decide ((out.length : Int) < (out.length : Int)) = false := decide_eq_false (by omega)
    have kHA := bc0 HA.out
    have mHA := bc1 HA.out
    have nHA := bc2 HA.out
    have fHA := bf0 HA.out
    have yHA := blk_lt HA.out
    have kHL := bc0 HL.out
    have mHL := bc1 HL.out
    have nHL := bc2 HL.out
    have fHL := bf0 HL.out
    have yHL := blk_lt HL.out
    go_wp2_with fail
    clear kHA mHA nHA fHA yHA kHL mHL nHL fHL yHL
    refine (quota_Excess.calls k c0 c1 c2 cA ca c3 cB cb c4 m0 m1 [] 0 z _ HC3.out ec3 HC4.out ec4 G2.out).mono ?_
    rintro e w9 ⟨v_, rfl, hv, hb⟩
    obtain ⟨eA, ea, rfl⟩ := Kd.R_slice hv
    clear hv
    have ln0 : ([] : List Int).length = 0 := rfl
    replace HB := Aside0.mk (below_step HB.out hb)
    clear hb
    go_wp2
    go_ret
    exact ⟨rfl, below_alloc HB.out _⟩


end Go.Proofs.YtbolikomoenmaaaDoor.P
