/- Functions of this seat as Lean functions, and that the Go code comes to their answers: written by a program of this session's. -/
import Derived.Test.YtbnmddippoiabaaDoorO6x25
import Derived.Test.YtbnmddippoiabaaDoorO6x10
import Derived.Test.YtbnmddippoiabaaDoorO6x18
import Derived.Test.YtbnmddippoiabaaDoorO6x20
import Derived.Test.YtbnmddippoiabaaDoorO6x28
import Derived.Test.YtbnmddippoiabaaDoorO6x31
import Derived.Test.YtbnmddippoiabaaDoorO6x30
namespace Go.Proofs.YtbnmddippoiabaaDoor.P
open Go.RowKit Go.Proofs.YtbnmddippoiabaaDoorW.PrintWords Go.Proofs.YtbnmddippoiabaaDoorW.PrintLast Go.Proofs.YtbnmddippoiabaaDoorW.PrintMore
attribute [local go_sem] max2_int min2_int max_two min_two max_three min_three max_four min_four   -- for this text's walks alone
set_option linter.unusedVariables false
set_option linter.unusedSimpArgs false

/-! ### posthouselaw8_OfflineClientsCommute: function 4 -/
attribute [local go_sem high] eqFault
theorem fieldViewO_1 (x : Int) (y : Value) (w : World) : Sem.run Tryd.prog (Instr.field 47 (.agg #[.int .i64 x, y]) 1) w = .ok y w := by kernel_rfl
/-- Two queued changes of two clients that leave each other alone. -/
def Apart (x y : S43) : Prop := x.f3 = false ∧ y.f3 = false ∧ x.f0 ≠ y.f0
theorem queued_cells {w : World} {A : Option Addr} {n : Nat} {xs : List (S43)} (h : Kd.C k43 w A n xs) {i : Nat} {x : S43} (hx : xs[i]? = some x) (hn : xs.length = n) : ∃ ad, A = some ad ∧ w.cell? (ad.add (i * 4)) = some (.int .i64 x.f0) ∧ w.cell? ⟨(ad.add (i * 4)).block, (ad.add (i * 4)).off + 3, none⟩ = some (.bool x.f3) := by
  have hi := (List.getElem?_eq_some_iff.1 hx).1
  obtain ⟨ad, hA, q0, -, -, q3⟩ := at_T43 h (i : Int) (by omega) (by omega)
  have hrd : rd_T43 xs (i : Int) = x := by unfold rd_T43; rw [Int.toNat_natCast, List.getD_eq_getElem?_getD, hx]; rfl
  rw [hrd, Int.toNat_natCast] at q0 q3
  exact ⟨ad, hA, q0, q3⟩
set_option maxHeartbeats 4000000 in
set_option maxRecDepth 100000 in
theorem OffCommute_all (k : Nat) (a0 a1 a2 : Int) (aA : Option Addr) (aa : Nat) (a3 : List (S55)) (aB : Option Addr) (ab : Nat) (a4 : List (S75)) (base : Int) (qA : Option Addr) (qa : Nat) (ql : List (S43)) (pA : Option Addr) (pa : Nat) (pl : List (S43)) (r0 r1 r2 : Int) (r3 : List (S55)) (r4 : List (S75)) (x0 x1 x2 : Int) (x3 : List (S55)) (x4 : List (S75)) (t0 t1 t2 : Int) (t3 : List (S55)) (t4 : List (S75)) (y0 y1 y2 : Int) (y3 : List (S55)) (y4 : List (S75)) (sa sb sc sd : List (S68)) (e1 e1' e2 e2' e3 e3' e4 e4' : Int) (w : World) (ha3 : Kd.C k55 w aA a3.length a3) (ea3 : a3.length ≤ aa) (ha4 : Kd.C k75 w aB a4.length a4) (ea4 : a4.length ≤ ab) (hql : Kd.C k43 w qA ql.length ql) (eql : ql.length ≤ qa) (hqw : ∀ q ∈ ql, (Lit.int .i64 q.f0).wf = true) (hpl : Kd.C k43 w pA pl.length pl) (epl : pl.length ≤ pa) (hpw : ∀ q ∈ pl, (Lit.int .i64 q.f0).wf = true) (hv1 : mailbox_Validate.f k a0 a1 a2 a3 a4 = some (0, 0) → (Lit.int .i64 a1).wf = true) (hv2 : mailbox_Validate.f k r0 r1 r2 r3 r4 = some (0, 0) → (Lit.int .i64 r1).wf = true) (hv3 : mailbox_Validate.f k t0 t1 t2 t3 t4 = some (0, 0) → (Lit.int .i64 t1).wf = true) (hbx : ∀ w, Calls Tryd.prog 12 #[] w fun e w' => e = .returned (.bool true) ∧ Below w.heap.size w w') (p1 : offline_Merge.f k a0 a1 a2 a3 a4 base ql = some (r0, r1, r2, r3, r4, sa, e1, e1')) (p2 : offline_Merge.f k r0 r1 r2 r3 r4 base pl = some (x0, x1, x2, x3, x4, sb, e2, e2')) (p3 : offline_Merge.f k a0 a1 a2 a3 a4 base pl = some (t0, t1, t2, t3, t4, sc, e3, e3')) (p4 : offline_Merge.f k t0 t1 t2 t3 t4 base ql = some (y0, y1, y2, y3, y4, sd, e4, e4')) (hfin : (∀ x ∈ ql, ∀ y ∈ pl, Apart x y) → a1 ≤ 900000 → e1 = 0 → e2 = 0 → e3 = 0 → e4 = 0 → x1 = y1 ∧ ∃ (v0 : Int) (vs : List (S83)) (z0 : Int) (zs : List (S83)), posthouseref8_ViewOf.f k x0 x1 x2 x3 x4 = some (v0, vs) ∧ posthouseref8_ViewOf.f k y0 y1 y2 y3 y4 = some (z0, zs) ∧ posthouseref8_SameSeen.f k vs zs = some true) :
    Calls Tryd.prog 4 #[.agg #[.int .i64 a0, .int .i64 a1, .int .i64 a2, .slice aA a3.length aa, .slice aB a4.length ab], .int .i64 base, .slice qA ql.length qa, .slice pA pl.length pa] w fun e w' => e = .returned (.bool true) ∧ Below w.heap.size w w' := by
  have HA3 := Aside0.mk ha3
  have HA4 := Aside0.mk ha4
  have HQL := Aside0.mk hql
  have HQW := Aside0.mk hqw
  have HPL := Aside0.mk hpl
  have HPW := Aside0.mk hpw
  have HV1 := Aside0.mk hv1
  have HV2 := Aside0.mk hv2
  have HV3 := Aside0.mk hv3
  have HBX := Aside0.mk hbx
  have P1 := Aside0.mk p1
  have P2 := Aside0.mk p2
  have P3 := Aside0.mk p3
  have P4 := Aside0.mk p4
  have HFIN := Aside0.mk hfin
  clear ha3 ha4 hql hqw hpl hpw hv1 hv2 hv3 hbx p1 p2 p3 p4 hfin
  have hfv := fieldViewO_1
  have hu := Tryd.underlying25
  have huv := Tryd.underlying47
  have huq := Tryd.underlying43
  have hfld := fieldFault_0
  have hl63 := HQL.out.2.1
  have hp63 := HPL.out.2.1
  have HB := Aside0.mk (below_alloc (Below.refl w.heap.size w) (.cells #[.int .i64 a0, .int .i64 a1, .int .i64 a2, .slice aA a3.length aa, .slice aB a4.length ab] 25))
  have HA := Aside0.mk (blk_at (w := w) (.cells #[.int .i64 a0, .int .i64 a1, .int .i64 a2, .slice aA a3.length aa, .slice aB a4.length ab] 25))
  go_enter Tryd.func4, Tryd.ntmps4
  go_wp2_with fail
  refine (HBX.out _).mono ?_
  rintro e w1 ⟨rfl, hb⟩
  replace HA := Aside0.mk (blk_call HA.out hb)
  replace HB := Aside0.mk (below_step HB.out hb)
  clear hb
  go_wp2_with fail
  go_loopg [9] ql.length (fun gg v9 W => ∃ i : Nat, i ≤ ql.length ∧ ql.length - i ≤ gg ∧ v9 = .int .i64 i ∧ Aside0 (∀ (n : Nat) x, n < i → ql[n]? = some x → ∀ y ∈ pl, Apart x y) ∧ Aside0 (W.heap[w.heap.size]? = some (.cells #[.int .i64 a0, .int .i64 a1, .int .i64 a2, .slice aA a3.length aa, .slice aB a4.length ab] 25 (0, 0))) ∧ Aside0 (Below w.heap.size w W))
  case atStart => exact ⟨0, Nat.zero_le _, Nat.le_refl _, rfl, ⟨fun n x hn => absurd hn (Nat.not_lt_zero _)⟩, HA, HB⟩
  case round =>
  clear HA HB
  obtain ⟨i, hi, hg, rfl, HO, HA, HB⟩ := hrel
  by_cases hlt : i < ql.length
  · skip
    obtain ⟨x, hx⟩ : ∃ x, ql[i]? = some x := ⟨_, List.getElem?_eq_getElem hlt⟩
    have i0 : decide ((i : Int) < (ql.length : Int)) = true := decide_eq_true (by omega)
    have i1 : decide (0 ≤ (i : Int)) = true := decide_eq_true (by omega)
    have HLT := Aside0.mk hlt
    have HX := Aside0.mk hx
    clear hx
    go_wp2
    go_loopg [10] pl.length (fun gg v10 W => ∃ j : Nat, j ≤ pl.length ∧ pl.length - j ≤ gg ∧ v10 = .int .i64 j ∧ Aside0 (∀ (n : Nat) y, n < j → pl[n]? = some y → Apart x y) ∧ Aside0 (W.heap[w.heap.size]? = some (.cells #[.int .i64 a0, .int .i64 a1, .int .i64 a2, .slice aA a3.length aa, .slice aB a4.length ab] 25 (0, 0))) ∧ Aside0 (Below w.heap.size w W))
    case atStart => exact ⟨0, Nat.zero_le _, Nat.le_refl _, rfl, ⟨fun n y hn => absurd hn (Nat.not_lt_zero _)⟩, HA, HB⟩
    case round =>
    clear HA HB
    obtain ⟨j, hj, hgj, rfl, HJ, HA, HB⟩ := hrel
    by_cases hlj : j < pl.length
    · skip
      obtain ⟨y, hy⟩ : ∃ y, pl[j]? = some y := ⟨_, List.getElem?_eq_getElem hlj⟩
      have j0 : decide ((j : Int) < (pl.length : Int)) = true := decide_eq_true (by omega)
      have j1 : decide (0 ≤ (j : Int)) = true := decide_eq_true (by omega)
      obtain ⟨ad, hA, q0, q3⟩ := queued_cells (Kd.C_below HQL.out HB.out) HX.out rfl
      obtain ⟨ae, hE, s0, s3⟩ := queued_cells (Kd.C_below HPL.out HB.out) hy rfl
      subst hA hE
      have HY := Aside0.mk hy
      have HLJ := Aside0.mk hlj
      clear hy
      cases hx3 : x.f3 with
      | true =>
        rw [hx3] at q3
        go_wp2
        go_quiet (fail)
        go_wp2
        go_ret
        exact ⟨rfl, pw_below_drewN HB.out _⟩
      | false =>
        rw [hx3] at q3
        cases hy3 : y.f3 with
        | true =>
          rw [hy3] at s3
          go_wp2
          go_quiet (fail)
          go_wp2
          go_ret
          exact ⟨rfl, pw_below_drewN HB.out _⟩
        | false =>
          rw [hy3] at s3
          cases he : (x.f0 == y.f0) with
          | true =>
            go_wp2
            go_quiet (fail)
            go_wp2
            go_ret
            exact ⟨rfl, pw_below_drewN HB.out _⟩
          | false =>
            have hap : Apart x y := ⟨hx3, hy3, beq_eq_false_iff_ne.1 he⟩
            have HAP := Aside0.mk hap
            clear hap
            go_wp2
            go_quiet (fail)
            go_wp2
            go_roundg (pl.length - (j + 1))
            case measure => have h9 := HLJ.out; omega
            case rel =>
              refine ⟨j + 1, by have h9 := HLJ.out; omega, by have h9 := HLJ.out; omega, by go_num, ⟨fun n z hn hz => ?_⟩, ⟨blk_drewN HA.out _⟩, ⟨pw_below_drewN HB.out _⟩⟩
              by_cases e : n = j
              · subst e
                rw [HY.out] at hz
                injection hz with hz
                subst hz
                exact HAP.out
              · exact HJ.out n z (by omega) hz
    · skip
      obtain rfl : j = pl.length := by omega
      have j0 : decide ((pl.length : Int) < (pl.length : Int)) = false := decide_eq_false (by omega)
      go_wp2
      go_roundg (ql.length - (i + 1))
      case measure => have h9 := HLT.out; omega
      case rel =>
        refine ⟨i + 1, by have h9 := HLT.out; omega, by have h9 := HLT.out; omega, by go_num, ⟨fun n z hn hz y hy => ?_⟩, HA, HB⟩
        by_cases e : n = i
        · subst e
          rw [HX.out] at hz
          injection hz with hz
          subst hz
          obtain ⟨m, hm⟩ := List.mem_iff_getElem?.1 hy
          exact HJ.out m y (List.getElem?_eq_some_iff.1 hm).1 hm
        · exact HO.out n z (by omega) hz y hy
  · skip
    obtain rfl : i = ql.length := by omega
    have i0 : decide ((ql.length : Int) < (ql.length : Int)) = false := decide_eq_false (by omega)
    have HALL : Aside0 (∀ x ∈ ql, ∀ y ∈ pl, Apart x y) := ⟨fun x hx y hy => by obtain ⟨m, hm⟩ := List.mem_iff_getElem?.1 hx; exact HO.out m x (List.getElem?_eq_some_iff.1 hm).1 hm y hy⟩
    clear HO
    by_cases hbig : a1 > 900000
    · skip
      have d1 : decide (900000 < a1) = true := decide_eq_true hbig
      have kHA := bc0 HA.out
      have mHA := bc1 HA.out
      have nHA := bc2 HA.out
      have fHA := bf0 HA.out
      have yHA := blk_lt HA.out
      go_wp2
      go_ret
      exact ⟨rfl, HB.out⟩
    · skip
      have d1 : decide (900000 < a1) = false := decide_eq_false hbig
      have hsm : a1 ≤ 900000 := by omega
      have HSM := Aside0.mk hsm
      clear hbig hsm
      have kHA := bc0 HA.out
      have mHA := bc1 HA.out
      have nHA := bc2 HA.out
      have fHA := bf0 HA.out
      have yHA := blk_lt HA.out
      go_wp2_with fail
      clear kHA mHA nHA fHA yHA
      refine (offline_Merge.calls k a0 a1 a2 aA aa a3 aB ab a4 base qA qa ql r0 r1 r2 r3 r4 sa e1 e1' _ (Kd.C_below HA3.out HB.out) ea3 (Kd.C_below HA4.out HB.out) ea4 (Kd.C_below HQL.out HB.out) eql HV1.out HQW.out P1.out).mono ?_
      rintro e w3 ⟨v3_, v4_, vs_, rfl, hv3_, hv4_, hvs_, hb⟩
      obtain ⟨rA, ra, rfl⟩ := Kd.V_slice hv3_
      obtain ⟨rB, rb, rfl⟩ := Kd.V_slice hv4_
      obtain ⟨sA, s_a, rfl⟩ := Kd.V_slice hvs_
      have HrV := Aside0.mk hv3_
      have HrU := Aside0.mk hv4_
      clear hv3_ hv4_ hvs_
      replace HA := Aside0.mk (blk_call HA.out hb)
      replace HB := Aside0.mk (below_step HB.out hb)
      clear hb
      go_wp2_with fail
      have hlo3 := below_size HB.out
      have l1_t3 := blk_lt HA.out
      replace HA := Aside0.mk (blk_later HA.out (.cells #[.int .i64 r0, .int .i64 r1, .int .i64 r2, .slice rA r3.length ra, .slice rB r4.length rb] 25))
      replace HrV := Aside0.mk (Kd.V_alloc HrV.out (.cells #[.int .i64 r0, .int .i64 r1, .int .i64 r2, .slice rA r3.length ra, .slice rB r4.length rb] 25))
      replace HrU := Aside0.mk (Kd.V_alloc HrU.out (.cells #[.int .i64 r0, .int .i64 r1, .int .i64 r2, .slice rA r3.length ra, .slice rB r4.length rb] 25))
      replace HB := Aside0.mk (below_alloc HB.out (.cells #[.int .i64 r0, .int .i64 r1, .int .i64 r2, .slice rA r3.length ra, .slice rB r4.length rb] 25))
      have HXB := Aside0.mk (blk_at (w := w3) (.cells #[.int .i64 r0, .int .i64 r1, .int .i64 r2, .slice rA r3.length ra, .slice rB r4.length rb] 25))
      have hs0_t3_ : (w3.alloc (.cells #[.int .i64 r0, .int .i64 r1, .int .i64 r2, .slice rA r3.length ra, .slice rB r4.length rb] 25)).heap.size = w3.heap.size + 1 := by simp
      generalize w3.alloc (.cells #[.int .i64 r0, .int .i64 r1, .int .i64 r2, .slice rA r3.length ra, .slice rB r4.length rb] 25) = X4 at *
      generalize w3.heap.size = t3_ at *
      have l2_t31 := blk_lt HA.out
      have l3_t31 := blk_lt HXB.out
      replace HA := Aside0.mk (blk_later HA.out (.cells #[.int .i64 e1, .int .i64 e1'] 29))
      replace HXB := Aside0.mk (blk_later HXB.out (.cells #[.int .i64 e1, .int .i64 e1'] 29))
      replace HrV := Aside0.mk (Kd.V_alloc HrV.out (.cells #[.int .i64 e1, .int .i64 e1'] 29))
      replace HrU := Aside0.mk (Kd.V_alloc HrU.out (.cells #[.int .i64 e1, .int .i64 e1'] 29))
      replace HB := Aside0.mk (below_alloc HB.out (.cells #[.int .i64 e1, .int .i64 e1'] 29))
      have HE1 := Aside0.mk (blk_at (w := X4) (.cells #[.int .i64 e1, .int .i64 e1'] 29))
      rw [hs0_t3_] at HE1 l2_t31 l3_t31
      clear hs0_t3_
      generalize X4.alloc (.cells #[.int .i64 e1, .int .i64 e1'] 29) = X5 at *
      have l4_m2 := blk_lt HA.out
      have l5_m2 := blk_lt HXB.out
      have l6_m2 := blk_lt HE1.out
      refine (offline_Merge.calls k r0 r1 r2 rA ra r3 rB rb r4 base pA pa pl x0 x1 x2 x3 x4 sb e2 e2' _ (Kd.F_now (Kd.V_F HrV.out)) (Kd.V_at HrV.out).2.1 (Kd.F_now (Kd.V_F HrU.out)) (Kd.V_at HrU.out).2.1 (Kd.C_below HPL.out HB.out) epl HV2.out HPW.out P2.out).mono ?_
      rintro e w6 ⟨v3_, v4_, vs_, rfl, hv3_, hv4_, hvs_, hb⟩
      obtain ⟨xA, xa, rfl⟩ := Kd.V_slice hv3_
      obtain ⟨xB, xb, rfl⟩ := Kd.V_slice hv4_
      obtain ⟨sA, s_a, rfl⟩ := Kd.V_slice hvs_
      have HxV := Aside0.mk hv3_
      have HxU := Aside0.mk hv4_
      clear hv3_ hv4_ hvs_
      replace HA := Aside0.mk (blk_call HA.out hb)
      replace HXB := Aside0.mk (blk_call HXB.out hb)
      replace HE1 := Aside0.mk (blk_call HE1.out hb)
      replace HrV := Aside0.mk (Kd.V_below HrV.out hb)
      replace HrU := Aside0.mk (Kd.V_below HrU.out hb)
      replace HB := Aside0.mk (below_step HB.out hb)
      clear hb
      clear HrV HrU
      have kHXB := bc0 HXB.out
      have mHXB := bc1 HXB.out
      have nHXB := bc2 HXB.out
      have fHXB := bf0 HXB.out
      have yHXB := blk_lt HXB.out
      have kHA := bc0 HA.out
      have mHA := bc1 HA.out
      have nHA := bc2 HA.out
      have fHA := bf0 HA.out
      have yHA := blk_lt HA.out
      go_wp2_with fail
      clear kHXB mHXB nHXB fHXB yHXB kHA mHA nHA fHA yHA
      replace HA := Aside0.mk (blk_far (p := ⟨t3_, 4, none⟩) (blk_far (p := ⟨t3_, 3, none⟩) (blk_far (p := ⟨t3_, 2, none⟩) (blk_far (p := ⟨t3_, 1, none⟩) (blk_far (p := ⟨t3_, 0, none⟩) HA.out (show w.heap.size ≠ t3_ by omega) (.int .i64 x0)) (show w.heap.size ≠ t3_ by omega) (.int .i64 x1)) (show w.heap.size ≠ t3_ by omega) (.int .i64 x2)) (show w.heap.size ≠ t3_ by omega) (.slice xA x3.length xa)) (show w.heap.size ≠ t3_ by omega) (.slice xB x4.length xb))
      replace HXB : Aside0 (((((((w6).setCell ⟨t3_, 0, none⟩ (.int .i64 x0)).setCell ⟨t3_, 1, none⟩ (.int .i64 x1)).setCell ⟨t3_, 2, none⟩ (.int .i64 x2)).setCell ⟨t3_, 3, none⟩ (.slice xA x3.length xa)).setCell ⟨t3_, 4, none⟩ (.slice xB x4.length xb)).heap[t3_]? = some (.cells #[(.int .i64 x0), (.int .i64 x1), (.int .i64 x2), (.slice xA x3.length xa), (.slice xB x4.length xb)] 25 (0, 0))) := Aside0.mk (blk_put (blk_put (blk_put (blk_put (blk_put HXB.out 0 (.int .i64 x0) rfl) 1 (.int .i64 x1) rfl) 2 (.int .i64 x2) rfl) 3 (.slice xA x3.length xa) rfl) 4 (.slice xB x4.length xb) rfl)
      replace HE1 := Aside0.mk (blk_far (p := ⟨t3_, 4, none⟩) (blk_far (p := ⟨t3_, 3, none⟩) (blk_far (p := ⟨t3_, 2, none⟩) (blk_far (p := ⟨t3_, 1, none⟩) (blk_far (p := ⟨t3_, 0, none⟩) HE1.out (show t3_ + 1 ≠ t3_ by omega) (.int .i64 x0)) (show t3_ + 1 ≠ t3_ by omega) (.int .i64 x1)) (show t3_ + 1 ≠ t3_ by omega) (.int .i64 x2)) (show t3_ + 1 ≠ t3_ by omega) (.slice xA x3.length xa)) (show t3_ + 1 ≠ t3_ by omega) (.slice xB x4.length xb))
      replace HxV := Aside0.mk (Kd.V_far (p := ⟨t3_, 4, none⟩) (Kd.V_far (p := ⟨t3_, 3, none⟩) (Kd.V_far (p := ⟨t3_, 2, none⟩) (Kd.V_far (p := ⟨t3_, 1, none⟩) (Kd.V_far (p := ⟨t3_, 0, none⟩) HxV.out (fun k_ (hk_ : X5.heap.size ≤ k_) => by show k_ ≠ t3_; omega) (.int .i64 x0)) (fun k_ (hk_ : X5.heap.size ≤ k_) => by show k_ ≠ t3_; omega) (.int .i64 x1)) (fun k_ (hk_ : X5.heap.size ≤ k_) => by show k_ ≠ t3_; omega) (.int .i64 x2)) (fun k_ (hk_ : X5.heap.size ≤ k_) => by show k_ ≠ t3_; omega) (.slice xA x3.length xa)) (fun k_ (hk_ : X5.heap.size ≤ k_) => by show k_ ≠ t3_; omega) (.slice xB x4.length xb))
      replace HxU := Aside0.mk (Kd.V_far (p := ⟨t3_, 4, none⟩) (Kd.V_far (p := ⟨t3_, 3, none⟩) (Kd.V_far (p := ⟨t3_, 2, none⟩) (Kd.V_far (p := ⟨t3_, 1, none⟩) (Kd.V_far (p := ⟨t3_, 0, none⟩) HxU.out (fun k_ (hk_ : X5.heap.size ≤ k_) => by show k_ ≠ t3_; omega) (.int .i64 x0)) (fun k_ (hk_ : X5.heap.size ≤ k_) => by show k_ ≠ t3_; omega) (.int .i64 x1)) (fun k_ (hk_ : X5.heap.size ≤ k_) => by show k_ ≠ t3_; omega) (.int .i64 x2)) (fun k_ (hk_ : X5.heap.size ≤ k_) => by show k_ ≠ t3_; omega) (.slice xA x3.length xa)) (fun k_ (hk_ : X5.heap.size ≤ k_) => by show k_ ≠ t3_; omega) (.slice xB x4.length xb))
      replace HB := Aside0.mk (below_set (j := 4) (v := (.slice xB x4.length xb)) (below_set (j := 3) (v := (.slice xA x3.length xa)) (below_set (j := 2) (v := (.int .i64 x2)) (below_set (j := 1) (v := (.int .i64 x1)) (below_set (j := 0) (v := (.int .i64 x0)) HB.out (show w.heap.size ≤ t3_ by omega)) (show w.heap.size ≤ t3_ by omega)) (show w.heap.size ≤ t3_ by omega)) (show w.heap.size ≤ t3_ by omega)) (show w.heap.size ≤ t3_ by omega))
      have hp6 : ((((((w6).setCell ⟨t3_, 0, none⟩ (.int .i64 x0)).setCell ⟨t3_, 1, none⟩ (.int .i64 x1)).setCell ⟨t3_, 2, none⟩ (.int .i64 x2)).setCell ⟨t3_, 3, none⟩ (.slice xA x3.length xa)).setCell ⟨t3_, 4, none⟩ (.slice xB x4.length xb)).heap.size = w6.heap.size := by simp
      generalize (((((w6).setCell ⟨t3_, 0, none⟩ (.int .i64 x0)).setCell ⟨t3_, 1, none⟩ (.int .i64 x1)).setCell ⟨t3_, 2, none⟩ (.int .i64 x2)).setCell ⟨t3_, 3, none⟩ (.slice xA x3.length xa)).setCell ⟨t3_, 4, none⟩ (.slice xB x4.length xb) = X7 at *
      have l7_t6 := blk_lt HA.out
      have l8_t6 := blk_lt HXB.out
      have l9_t6 := blk_lt HE1.out
      replace HA := Aside0.mk (blk_later HA.out (.cells #[.int .i64 e2, .int .i64 e2'] 29))
      replace HXB := Aside0.mk (blk_later HXB.out (.cells #[.int .i64 e2, .int .i64 e2'] 29))
      replace HE1 := Aside0.mk (blk_later HE1.out (.cells #[.int .i64 e2, .int .i64 e2'] 29))
      replace HxV := Aside0.mk (Kd.V_alloc HxV.out (.cells #[.int .i64 e2, .int .i64 e2'] 29))
      replace HxU := Aside0.mk (Kd.V_alloc HxU.out (.cells #[.int .i64 e2, .int .i64 e2'] 29))
      replace HB := Aside0.mk (below_alloc HB.out (.cells #[.int .i64 e2, .int .i64 e2'] 29))
      have HE2 := Aside0.mk (blk_at (w := X7) (.cells #[.int .i64 e2, .int .i64 e2'] 29))
      have hs6 : (X7.alloc (.cells #[.int .i64 e2, .int .i64 e2'] 29)).heap.size = X7.heap.size + 1 := by simp
      rw [hp6] at HE2 l7_t6 l8_t6 l9_t6 hs6
      clear hp6
      generalize X7.alloc (.cells #[.int .i64 e2, .int .i64 e2'] 29) = X8 at *
      generalize w6.heap.size = t6_ at *
      refine (offline_Merge.calls k a0 a1 a2 aA aa a3 aB ab a4 base pA pa pl t0 t1 t2 t3 t4 sc e3 e3' _ (Kd.C_below HA3.out HB.out) ea3 (Kd.C_below HA4.out HB.out) ea4 (Kd.C_below HPL.out HB.out) epl HV1.out HPW.out P3.out).mono ?_
      rintro e w9 ⟨v3_, v4_, vs_, rfl, hv3_, hv4_, hvs_, hb⟩
      obtain ⟨tA, ta, rfl⟩ := Kd.V_slice hv3_
      obtain ⟨tB, tb, rfl⟩ := Kd.V_slice hv4_
      obtain ⟨sA, s_a, rfl⟩ := Kd.V_slice hvs_
      have HtV := Aside0.mk hv3_
      have HtU := Aside0.mk hv4_
      clear hv3_ hv4_ hvs_
      replace HA := Aside0.mk (blk_call HA.out hb)
      replace HXB := Aside0.mk (blk_call HXB.out hb)
      replace HE1 := Aside0.mk (blk_call HE1.out hb)
      replace HE2 := Aside0.mk (blk_call HE2.out hb)
      replace HxV := Aside0.mk (Kd.V_below HxV.out hb)
      replace HxU := Aside0.mk (Kd.V_below HxU.out hb)
      replace HB := Aside0.mk (below_step HB.out hb)
      clear hb
      go_wp2_with fail
      have hlo9 := below_size HB.out
      have l10_t9 := blk_lt HA.out
      have l11_t9 := blk_lt HXB.out
      have l12_t9 := blk_lt HE1.out
      have l13_t9 := blk_lt HE2.out
      replace HxV := Aside0.mk (Kd.V_mono (ok' := fun k_ => X5.heap.size ≤ k_ ∧ k_ ≠ w9.heap.size) (Kd.V_elderB HxV.out w9.heap.size (Nat.le_refl _)) (fun k_ hk_ => by have h1_ := hk_.1; have h2_ := hk_.2; omega))
      replace HxU := Aside0.mk (Kd.V_mono (ok' := fun k_ => X5.heap.size ≤ k_ ∧ k_ ≠ w9.heap.size) (Kd.V_elderB HxU.out w9.heap.size (Nat.le_refl _)) (fun k_ hk_ => by have h1_ := hk_.1; have h2_ := hk_.2; omega))
      replace HtV := Aside0.mk (Kd.V_mono (ok' := fun k_ => X8.heap.size ≤ k_ ∧ k_ ≠ w9.heap.size) (Kd.V_elderB HtV.out w9.heap.size (Nat.le_refl _)) (fun k_ hk_ => by have h1_ := hk_.1; have h2_ := hk_.2; omega))
      replace HtU := Aside0.mk (Kd.V_mono (ok' := fun k_ => X8.heap.size ≤ k_ ∧ k_ ≠ w9.heap.size) (Kd.V_elderB HtU.out w9.heap.size (Nat.le_refl _)) (fun k_ hk_ => by have h1_ := hk_.1; have h2_ := hk_.2; omega))
      replace HA := Aside0.mk (blk_later HA.out (.cells #[.int .i64 t0, .int .i64 t1, .int .i64 t2, .slice tA t3.length ta, .slice tB t4.length tb] 25))
      replace HXB := Aside0.mk (blk_later HXB.out (.cells #[.int .i64 t0, .int .i64 t1, .int .i64 t2, .slice tA t3.length ta, .slice tB t4.length tb] 25))
      replace HE1 := Aside0.mk (blk_later HE1.out (.cells #[.int .i64 t0, .int .i64 t1, .int .i64 t2, .slice tA t3.length ta, .slice tB t4.length tb] 25))
      replace HE2 := Aside0.mk (blk_later HE2.out (.cells #[.int .i64 t0, .int .i64 t1, .int .i64 t2, .slice tA t3.length ta, .slice tB t4.length tb] 25))
      replace HxV := Aside0.mk (Kd.V_alloc HxV.out (.cells #[.int .i64 t0, .int .i64 t1, .int .i64 t2, .slice tA t3.length ta, .slice tB t4.length tb] 25))
      replace HxU := Aside0.mk (Kd.V_alloc HxU.out (.cells #[.int .i64 t0, .int .i64 t1, .int .i64 t2, .slice tA t3.length ta, .slice tB t4.length tb] 25))
      replace HtV := Aside0.mk (Kd.V_alloc HtV.out (.cells #[.int .i64 t0, .int .i64 t1, .int .i64 t2, .slice tA t3.length ta, .slice tB t4.length tb] 25))
      replace HtU := Aside0.mk (Kd.V_alloc HtU.out (.cells #[.int .i64 t0, .int .i64 t1, .int .i64 t2, .slice tA t3.length ta, .slice tB t4.length tb] 25))
      replace HB := Aside0.mk (below_alloc HB.out (.cells #[.int .i64 t0, .int .i64 t1, .int .i64 t2, .slice tA t3.length ta, .slice tB t4.length tb] 25))
      have HTB := Aside0.mk (blk_at (w := w9) (.cells #[.int .i64 t0, .int .i64 t1, .int .i64 t2, .slice tA t3.length ta, .slice tB t4.length tb] 25))
      have hs9 : (w9.alloc (.cells #[.int .i64 t0, .int .i64 t1, .int .i64 t2, .slice tA t3.length ta, .slice tB t4.length tb] 25)).heap.size = w9.heap.size + 1 := by simp
      generalize w9.alloc (.cells #[.int .i64 t0, .int .i64 t1, .int .i64 t2, .slice tA t3.length ta, .slice tB t4.length tb] 25) = X10 at *
      generalize w9.heap.size = t9_ at *
      have l14_t91 := blk_lt HA.out
      have l15_t91 := blk_lt HXB.out
      have l16_t91 := blk_lt HE1.out
      have l17_t91 := blk_lt HE2.out
      have l18_t91 := blk_lt HTB.out
      replace HA := Aside0.mk (blk_later HA.out (.cells #[.int .i64 e3, .int .i64 e3'] 29))
      replace HXB := Aside0.mk (blk_later HXB.out (.cells #[.int .i64 e3, .int .i64 e3'] 29))
      replace HE1 := Aside0.mk (blk_later HE1.out (.cells #[.int .i64 e3, .int .i64 e3'] 29))
      replace HE2 := Aside0.mk (blk_later HE2.out (.cells #[.int .i64 e3, .int .i64 e3'] 29))
      replace HTB := Aside0.mk (blk_later HTB.out (.cells #[.int .i64 e3, .int .i64 e3'] 29))
      replace HxV := Aside0.mk (Kd.V_alloc HxV.out (.cells #[.int .i64 e3, .int .i64 e3'] 29))
      replace HxU := Aside0.mk (Kd.V_alloc HxU.out (.cells #[.int .i64 e3, .int .i64 e3'] 29))
      replace HtV := Aside0.mk (Kd.V_alloc HtV.out (.cells #[.int .i64 e3, .int .i64 e3'] 29))
      replace HtU := Aside0.mk (Kd.V_alloc HtU.out (.cells #[.int .i64 e3, .int .i64 e3'] 29))
      replace HB := Aside0.mk (below_alloc HB.out (.cells #[.int .i64 e3, .int .i64 e3'] 29))
      have HE3 := Aside0.mk (blk_at (w := X10) (.cells #[.int .i64 e3, .int .i64 e3'] 29))
      rw [hs9] at HE3 l14_t91 l15_t91 l16_t91 l17_t91 l18_t91
      clear hs9
      generalize X10.alloc (.cells #[.int .i64 e3, .int .i64 e3'] 29) = X11 at *
      have l19_m4 := blk_lt HA.out
      have l20_m4 := blk_lt HXB.out
      have l21_m4 := blk_lt HE1.out
      have l22_m4 := blk_lt HE2.out
      have l23_m4 := blk_lt HTB.out
      have l24_m4 := blk_lt HE3.out
      refine (offline_Merge.calls k t0 t1 t2 tA ta t3 tB tb t4 base qA qa ql y0 y1 y2 y3 y4 sd e4 e4' _ (Kd.F_now (Kd.V_F HtV.out)) (Kd.V_at HtV.out).2.1 (Kd.F_now (Kd.V_F HtU.out)) (Kd.V_at HtU.out).2.1 (Kd.C_below HQL.out HB.out) eql HV3.out HQW.out P4.out).mono ?_
      rintro e w12 ⟨v3_, v4_, vs_, rfl, hv3_, hv4_, hvs_, hb⟩
      obtain ⟨yA, ya, rfl⟩ := Kd.V_slice hv3_
      obtain ⟨yB, yb, rfl⟩ := Kd.V_slice hv4_
      obtain ⟨sA, s_a, rfl⟩ := Kd.V_slice hvs_
      have HyV := Aside0.mk hv3_
      have HyU := Aside0.mk hv4_
      clear hv3_ hv4_ hvs_
      replace HA := Aside0.mk (blk_call HA.out hb)
      replace HXB := Aside0.mk (blk_call HXB.out hb)
      replace HE1 := Aside0.mk (blk_call HE1.out hb)
      replace HE2 := Aside0.mk (blk_call HE2.out hb)
      replace HTB := Aside0.mk (blk_call HTB.out hb)
      replace HE3 := Aside0.mk (blk_call HE3.out hb)
      replace HxV := Aside0.mk (Kd.V_below HxV.out hb)
      replace HxU := Aside0.mk (Kd.V_below HxU.out hb)
      replace HtV := Aside0.mk (Kd.V_below HtV.out hb)
      replace HtU := Aside0.mk (Kd.V_below HtU.out hb)
      replace HB := Aside0.mk (below_step HB.out hb)
      clear hb
      clear HtV HtU
      have kHTB := bc0 HTB.out
      have mHTB := bc1 HTB.out
      have nHTB := bc2 HTB.out
      have fHTB := bf0 HTB.out
      have yHTB := blk_lt HTB.out
      go_upto_region 17 with fail
      clear kHTB mHTB nHTB fHTB yHTB
      replace HA := Aside0.mk (blk_far (p := ⟨t9_, 4, none⟩) (blk_far (p := ⟨t9_, 3, none⟩) (blk_far (p := ⟨t9_, 2, none⟩) (blk_far (p := ⟨t9_, 1, none⟩) (blk_far (p := ⟨t9_, 0, none⟩) HA.out (show w.heap.size ≠ t9_ by omega) (.int .i64 y0)) (show w.heap.size ≠ t9_ by omega) (.int .i64 y1)) (show w.heap.size ≠ t9_ by omega) (.int .i64 y2)) (show w.heap.size ≠ t9_ by omega) (.slice yA y3.length ya)) (show w.heap.size ≠ t9_ by omega) (.slice yB y4.length yb))
      replace HXB := Aside0.mk (blk_far (p := ⟨t9_, 4, none⟩) (blk_far (p := ⟨t9_, 3, none⟩) (blk_far (p := ⟨t9_, 2, none⟩) (blk_far (p := ⟨t9_, 1, none⟩) (blk_far (p := ⟨t9_, 0, none⟩) HXB.out (show t3_ ≠ t9_ by omega) (.int .i64 y0)) (show t3_ ≠ t9_ by omega) (.int .i64 y1)) (show t3_ ≠ t9_ by omega) (.int .i64 y2)) (show t3_ ≠ t9_ by omega) (.slice yA y3.length ya)) (show t3_ ≠ t9_ by omega) (.slice yB y4.length yb))
      replace HE1 := Aside0.mk (blk_far (p := ⟨t9_, 4, none⟩) (blk_far (p := ⟨t9_, 3, none⟩) (blk_far (p := ⟨t9_, 2, none⟩) (blk_far (p := ⟨t9_, 1, none⟩) (blk_far (p := ⟨t9_, 0, none⟩) HE1.out (show t3_ + 1 ≠ t9_ by omega) (.int .i64 y0)) (show t3_ + 1 ≠ t9_ by omega) (.int .i64 y1)) (show t3_ + 1 ≠ t9_ by omega) (.int .i64 y2)) (show t3_ + 1 ≠ t9_ by omega) (.slice yA y3.length ya)) (show t3_ + 1 ≠ t9_ by omega) (.slice yB y4.length yb))
      replace HE2 := Aside0.mk (blk_far (p := ⟨t9_, 4, none⟩) (blk_far (p := ⟨t9_, 3, none⟩) (blk_far (p := ⟨t9_, 2, none⟩) (blk_far (p := ⟨t9_, 1, none⟩) (blk_far (p := ⟨t9_, 0, none⟩) HE2.out (show t6_ ≠ t9_ by omega) (.int .i64 y0)) (show t6_ ≠ t9_ by omega) (.int .i64 y1)) (show t6_ ≠ t9_ by omega) (.int .i64 y2)) (show t6_ ≠ t9_ by omega) (.slice yA y3.length ya)) (show t6_ ≠ t9_ by omega) (.slice yB y4.length yb))
      replace HTB : Aside0 (((((((w12).setCell ⟨t9_, 0, none⟩ (.int .i64 y0)).setCell ⟨t9_, 1, none⟩ (.int .i64 y1)).setCell ⟨t9_, 2, none⟩ (.int .i64 y2)).setCell ⟨t9_, 3, none⟩ (.slice yA y3.length ya)).setCell ⟨t9_, 4, none⟩ (.slice yB y4.length yb)).heap[t9_]? = some (.cells #[(.int .i64 y0), (.int .i64 y1), (.int .i64 y2), (.slice yA y3.length ya), (.slice yB y4.length yb)] 25 (0, 0))) := Aside0.mk (blk_put (blk_put (blk_put (blk_put (blk_put HTB.out 0 (.int .i64 y0) rfl) 1 (.int .i64 y1) rfl) 2 (.int .i64 y2) rfl) 3 (.slice yA y3.length ya) rfl) 4 (.slice yB y4.length yb) rfl)
      replace HE3 := Aside0.mk (blk_far (p := ⟨t9_, 4, none⟩) (blk_far (p := ⟨t9_, 3, none⟩) (blk_far (p := ⟨t9_, 2, none⟩) (blk_far (p := ⟨t9_, 1, none⟩) (blk_far (p := ⟨t9_, 0, none⟩) HE3.out (show t9_ + 1 ≠ t9_ by omega) (.int .i64 y0)) (show t9_ + 1 ≠ t9_ by omega) (.int .i64 y1)) (show t9_ + 1 ≠ t9_ by omega) (.int .i64 y2)) (show t9_ + 1 ≠ t9_ by omega) (.slice yA y3.length ya)) (show t9_ + 1 ≠ t9_ by omega) (.slice yB y4.length yb))
      replace HxV := Aside0.mk (Kd.V_far (p := ⟨t9_, 4, none⟩) (Kd.V_far (p := ⟨t9_, 3, none⟩) (Kd.V_far (p := ⟨t9_, 2, none⟩) (Kd.V_far (p := ⟨t9_, 1, none⟩) (Kd.V_far (p := ⟨t9_, 0, none⟩) HxV.out (fun k_ (hk_ : X5.heap.size ≤ k_ ∧ k_ ≠ t9_) => by show k_ ≠ t9_; omega) (.int .i64 y0)) (fun k_ (hk_ : X5.heap.size ≤ k_ ∧ k_ ≠ t9_) => by show k_ ≠ t9_; omega) (.int .i64 y1)) (fun k_ (hk_ : X5.heap.size ≤ k_ ∧ k_ ≠ t9_) => by show k_ ≠ t9_; omega) (.int .i64 y2)) (fun k_ (hk_ : X5.heap.size ≤ k_ ∧ k_ ≠ t9_) => by show k_ ≠ t9_; omega) (.slice yA y3.length ya)) (fun k_ (hk_ : X5.heap.size ≤ k_ ∧ k_ ≠ t9_) => by show k_ ≠ t9_; omega) (.slice yB y4.length yb))
      replace HxU := Aside0.mk (Kd.V_far (p := ⟨t9_, 4, none⟩) (Kd.V_far (p := ⟨t9_, 3, none⟩) (Kd.V_far (p := ⟨t9_, 2, none⟩) (Kd.V_far (p := ⟨t9_, 1, none⟩) (Kd.V_far (p := ⟨t9_, 0, none⟩) HxU.out (fun k_ (hk_ : X5.heap.size ≤ k_ ∧ k_ ≠ t9_) => by show k_ ≠ t9_; omega) (.int .i64 y0)) (fun k_ (hk_ : X5.heap.size ≤ k_ ∧ k_ ≠ t9_) => by show k_ ≠ t9_; omega) (.int .i64 y1)) (fun k_ (hk_ : X5.heap.size ≤ k_ ∧ k_ ≠ t9_) => by show k_ ≠ t9_; omega) (.int .i64 y2)) (fun k_ (hk_ : X5.heap.size ≤ k_ ∧ k_ ≠ t9_) => by show k_ ≠ t9_; omega) (.slice yA y3.length ya)) (fun k_ (hk_ : X5.heap.size ≤ k_ ∧ k_ ≠ t9_) => by show k_ ≠ t9_; omega) (.slice yB y4.length yb))
      replace HyV := Aside0.mk (Kd.V_far (p := ⟨t9_, 4, none⟩) (Kd.V_far (p := ⟨t9_, 3, none⟩) (Kd.V_far (p := ⟨t9_, 2, none⟩) (Kd.V_far (p := ⟨t9_, 1, none⟩) (Kd.V_far (p := ⟨t9_, 0, none⟩) HyV.out (fun k_ (hk_ : X11.heap.size ≤ k_) => by show k_ ≠ t9_; omega) (.int .i64 y0)) (fun k_ (hk_ : X11.heap.size ≤ k_) => by show k_ ≠ t9_; omega) (.int .i64 y1)) (fun k_ (hk_ : X11.heap.size ≤ k_) => by show k_ ≠ t9_; omega) (.int .i64 y2)) (fun k_ (hk_ : X11.heap.size ≤ k_) => by show k_ ≠ t9_; omega) (.slice yA y3.length ya)) (fun k_ (hk_ : X11.heap.size ≤ k_) => by show k_ ≠ t9_; omega) (.slice yB y4.length yb))
      replace HyU := Aside0.mk (Kd.V_far (p := ⟨t9_, 4, none⟩) (Kd.V_far (p := ⟨t9_, 3, none⟩) (Kd.V_far (p := ⟨t9_, 2, none⟩) (Kd.V_far (p := ⟨t9_, 1, none⟩) (Kd.V_far (p := ⟨t9_, 0, none⟩) HyU.out (fun k_ (hk_ : X11.heap.size ≤ k_) => by show k_ ≠ t9_; omega) (.int .i64 y0)) (fun k_ (hk_ : X11.heap.size ≤ k_) => by show k_ ≠ t9_; omega) (.int .i64 y1)) (fun k_ (hk_ : X11.heap.size ≤ k_) => by show k_ ≠ t9_; omega) (.int .i64 y2)) (fun k_ (hk_ : X11.heap.size ≤ k_) => by show k_ ≠ t9_; omega) (.slice yA y3.length ya)) (fun k_ (hk_ : X11.heap.size ≤ k_) => by show k_ ≠ t9_; omega) (.slice yB y4.length yb))
      replace HB := Aside0.mk (below_set (j := 4) (v := (.slice yB y4.length yb)) (below_set (j := 3) (v := (.slice yA y3.length ya)) (below_set (j := 2) (v := (.int .i64 y2)) (below_set (j := 1) (v := (.int .i64 y1)) (below_set (j := 0) (v := (.int .i64 y0)) HB.out (show w.heap.size ≤ t9_ by omega)) (show w.heap.size ≤ t9_ by omega)) (show w.heap.size ≤ t9_ by omega)) (show w.heap.size ≤ t9_ by omega)) (show w.heap.size ≤ t9_ by omega))
      have hp12 : ((((((w12).setCell ⟨t9_, 0, none⟩ (.int .i64 y0)).setCell ⟨t9_, 1, none⟩ (.int .i64 y1)).setCell ⟨t9_, 2, none⟩ (.int .i64 y2)).setCell ⟨t9_, 3, none⟩ (.slice yA y3.length ya)).setCell ⟨t9_, 4, none⟩ (.slice yB y4.length yb)).heap.size = w12.heap.size := by simp
      generalize (((((w12).setCell ⟨t9_, 0, none⟩ (.int .i64 y0)).setCell ⟨t9_, 1, none⟩ (.int .i64 y1)).setCell ⟨t9_, 2, none⟩ (.int .i64 y2)).setCell ⟨t9_, 3, none⟩ (.slice yA y3.length ya)).setCell ⟨t9_, 4, none⟩ (.slice yB y4.length yb) = X13 at *
      have l25_t12 := blk_lt HA.out
      have l26_t12 := blk_lt HXB.out
      have l27_t12 := blk_lt HE1.out
      have l28_t12 := blk_lt HE2.out
      have l29_t12 := blk_lt HTB.out
      have l30_t12 := blk_lt HE3.out
      replace HA := Aside0.mk (blk_later HA.out (.cells #[.int .i64 e4, .int .i64 e4'] 29))
      replace HXB := Aside0.mk (blk_later HXB.out (.cells #[.int .i64 e4, .int .i64 e4'] 29))
      replace HE1 := Aside0.mk (blk_later HE1.out (.cells #[.int .i64 e4, .int .i64 e4'] 29))
      replace HE2 := Aside0.mk (blk_later HE2.out (.cells #[.int .i64 e4, .int .i64 e4'] 29))
      replace HTB := Aside0.mk (blk_later HTB.out (.cells #[.int .i64 e4, .int .i64 e4'] 29))
      replace HE3 := Aside0.mk (blk_later HE3.out (.cells #[.int .i64 e4, .int .i64 e4'] 29))
      replace HxV := Aside0.mk (Kd.V_alloc HxV.out (.cells #[.int .i64 e4, .int .i64 e4'] 29))
      replace HxU := Aside0.mk (Kd.V_alloc HxU.out (.cells #[.int .i64 e4, .int .i64 e4'] 29))
      replace HyV := Aside0.mk (Kd.V_alloc HyV.out (.cells #[.int .i64 e4, .int .i64 e4'] 29))
      replace HyU := Aside0.mk (Kd.V_alloc HyU.out (.cells #[.int .i64 e4, .int .i64 e4'] 29))
      replace HB := Aside0.mk (below_alloc HB.out (.cells #[.int .i64 e4, .int .i64 e4'] 29))
      have HE4 := Aside0.mk (blk_at (w := X13) (.cells #[.int .i64 e4, .int .i64 e4'] 29))
      have hs12 : (X13.alloc (.cells #[.int .i64 e4, .int .i64 e4'] 29)).heap.size = X13.heap.size + 1 := by simp
      rw [hp12] at HE4 l25_t12 l26_t12 l27_t12 l28_t12 l29_t12 l30_t12 hs12
      clear hp12
      generalize X13.alloc (.cells #[.int .i64 e4, .int .i64 e4'] 29) = X14 at *
      generalize w12.heap.size = t12_ at *
      cases hq1 : (e1 != 0) with
      | true =>
        have q1 : (e1 != 0) = true := hq1
        have kHE1 := bc0 HE1.out
        have mHE1 := bc1 HE1.out
        have nHE1 := bc2 HE1.out
        have fHE1 := bf0 HE1.out
        have yHE1 := blk_lt HE1.out
        have kHE2 := bc0 HE2.out
        have mHE2 := bc1 HE2.out
        have nHE2 := bc2 HE2.out
        have fHE2 := bf0 HE2.out
        have yHE2 := blk_lt HE2.out
        have kHE3 := bc0 HE3.out
        have mHE3 := bc1 HE3.out
        have nHE3 := bc2 HE3.out
        have fHE3 := bf0 HE3.out
        have yHE3 := blk_lt HE3.out
        have kHE4 := bc0 HE4.out
        have mHE4 := bc1 HE4.out
        have nHE4 := bc2 HE4.out
        have fHE4 := bf0 HE4.out
        have yHE4 := blk_lt HE4.out
        go_wp2
        go_ret
        exact ⟨rfl, HB.out⟩
      | false =>
        cases hq2 : (e2 != 0) with
        | true =>
          have q2 : (e2 != 0) = true := hq2
          have kHE1 := bc0 HE1.out
          have mHE1 := bc1 HE1.out
          have nHE1 := bc2 HE1.out
          have fHE1 := bf0 HE1.out
          have yHE1 := blk_lt HE1.out
          have kHE2 := bc0 HE2.out
          have mHE2 := bc1 HE2.out
          have nHE2 := bc2 HE2.out
          have fHE2 := bf0 HE2.out
          have yHE2 := blk_lt HE2.out
          have kHE3 := bc0 HE3.out
          have mHE3 := bc1 HE3.out
          have nHE3 := bc2 HE3.out
          have fHE3 := bf0 HE3.out
          have yHE3 := blk_lt HE3.out
          have kHE4 := bc0 HE4.out
          have mHE4 := bc1 HE4.out
          have nHE4 := bc2 HE4.out
          have fHE4 := bf0 HE4.out
          have yHE4 := blk_lt HE4.out
          go_wp2
          go_ret
          exact ⟨rfl, HB.out⟩
        | false =>
          cases hq3 : (e3 != 0) with
          | true =>
            have q3 : (e3 != 0) = true := hq3
            have kHE1 := bc0 HE1.out
            have mHE1 := bc1 HE1.out
            have nHE1 := bc2 HE1.out
            have fHE1 := bf0 HE1.out
            have yHE1 := blk_lt HE1.out
            have kHE2 := bc0 HE2.out
            have mHE2 := bc1 HE2.out
            have nHE2 := bc2 HE2.out
            have fHE2 := bf0 HE2.out
            have yHE2 := blk_lt HE2.out
            have kHE3 := bc0 HE3.out
            have mHE3 := bc1 HE3.out
            have nHE3 := bc2 HE3.out
            have fHE3 := bf0 HE3.out
            have yHE3 := blk_lt HE3.out
            have kHE4 := bc0 HE4.out
            have mHE4 := bc1 HE4.out
            have nHE4 := bc2 HE4.out
            have fHE4 := bf0 HE4.out
            have yHE4 := blk_lt HE4.out
            go_wp2
            go_ret
            exact ⟨rfl, HB.out⟩
          | false =>
            cases hq4 : (e4 != 0) with
            | true =>
              have q4 : (e4 != 0) = true := hq4
              have kHE1 := bc0 HE1.out
              have mHE1 := bc1 HE1.out
              have nHE1 := bc2 HE1.out
              have fHE1 := bf0 HE1.out
              have yHE1 := blk_lt HE1.out
              have kHE2 := bc0 HE2.out
              have mHE2 := bc1 HE2.out
              have nHE2 := bc2 HE2.out
              have fHE2 := bf0 HE2.out
              have yHE2 := blk_lt HE2.out
              have kHE3 := bc0 HE3.out
              have mHE3 := bc1 HE3.out
              have nHE3 := bc2 HE3.out
              have fHE3 := bf0 HE3.out
              have yHE3 := blk_lt HE3.out
              have kHE4 := bc0 HE4.out
              have mHE4 := bc1 HE4.out
              have nHE4 := bc2 HE4.out
              have fHE4 := bf0 HE4.out
              have yHE4 := blk_lt HE4.out
              go_wp2
              go_ret
              exact ⟨rfl, HB.out⟩
            | false =>
              have kHE1 := bc0 HE1.out
              have mHE1 := bc1 HE1.out
              have nHE1 := bc2 HE1.out
              have fHE1 := bf0 HE1.out
              have yHE1 := blk_lt HE1.out
              have kHE2 := bc0 HE2.out
              have mHE2 := bc1 HE2.out
              have nHE2 := bc2 HE2.out
              have fHE2 := bf0 HE2.out
              have yHE2 := blk_lt HE2.out
              have kHE3 := bc0 HE3.out
              have mHE3 := bc1 HE3.out
              have nHE3 := bc2 HE3.out
              have fHE3 := bf0 HE3.out
              have yHE3 := blk_lt HE3.out
              have kHE4 := bc0 HE4.out
              have mHE4 := bc1 HE4.out
              have nHE4 := bc2 HE4.out
              have fHE4 := bf0 HE4.out
              have yHE4 := blk_lt HE4.out
              go_wp2_with fail
              clear kHE1 mHE1 nHE1 fHE1 yHE1 kHE2 mHE2 nHE2 fHE2 yHE2 kHE3 mHE3 nHE3 fHE3 yHE3 kHE4 mHE4 nHE4 fHE4 yHE4
              clear HE1 HE2 HE3 HE4 HA
              obtain ⟨hxy, v0, vs, z0, zs, g1, g2, g3⟩ := HFIN.out HALL.out HSM.out (by simpa using hq1) (by simpa using hq2) (by simpa using hq3) (by simpa using hq4)
              have d9 : (x1 == y1) = true := beq_iff_eq.2 hxy
              have G1 := Aside0.mk g1
              have G2 := Aside0.mk g2
              have G3 := Aside0.mk g3
              clear g1 g2 g3 hxy
              refine region_till 14 (fun _ => True) (fun w' : World => w'.cell? ⟨t3_, 0, none⟩ = some (.int .i64 x0) ∧ w'.cell? ⟨t3_, 1, none⟩ = some (.int .i64 x1) ∧ w'.cell? ⟨t3_, 2, none⟩ = some (.int .i64 x2) ∧ w'.cell? ⟨t3_, 3, none⟩ = some (.slice xA x3.length xa) ∧ w'.cell? ⟨t3_, 4, none⟩ = some (.slice xB x4.length xb) ∧ w'.cell? ⟨t9_, 0, none⟩ = some (.int .i64 y0) ∧ w'.cell? ⟨t9_, 1, none⟩ = some (.int .i64 y1) ∧ w'.cell? ⟨t9_, 2, none⟩ = some (.int .i64 y2) ∧ w'.cell? ⟨t9_, 3, none⟩ = some (.slice yA y3.length ya) ∧ w'.cell? ⟨t9_, 4, none⟩ = some (.slice yB y4.length yb)) (by kernel_rfl) ⟨trivial, ⟨bc0 (blk_drew HXB.out) 0, bc0 (blk_drew HXB.out) 1, bc0 (blk_drew HXB.out) 2, bc0 (blk_drew HXB.out) 3, bc0 (blk_drew HXB.out) 4, bc0 (blk_drew HTB.out) 0, bc0 (blk_drew HTB.out) 1, bc0 (blk_drew HTB.out) 2, bc0 (blk_drew HTB.out) 3, bc0 (blk_drew HTB.out) 4⟩⟩ (fun hTU => ?_)
              replace HXB := Aside0.mk (blk_drew HXB.out)
              replace HTB := Aside0.mk (blk_drew HTB.out)
              replace HxV := Aside0.mk (Kd.V_drew HxV.out)
              replace HxU := Aside0.mk (Kd.V_drew HxU.out)
              replace HyV := Aside0.mk (Kd.V_drew HyV.out)
              replace HyU := Aside0.mk (Kd.V_drew HyU.out)
              replace HB := Aside0.mk (below_drew1 HB.out)
              generalize X14.drew = V0 at *
              refine till_takeD (i := 0) (v := ?_) (some 113) rfl rfl (by kernel_rfl) (by kernel_rfl) (by kernel_rfl) (by kernel_rfl) (fun _ _ _ h => h) (Or.inl ⟨by rfl, ?_⟩) (by assumption) ?_
              rotate_left
              · (intro w_ hS_; (try dsimp only at hS_); go_simp; try with_reducible rfl)
              try simp only [Act.put, List.setIfInBounds_toArray, List.set_cons_zero, List.set_cons_succ]
              refine till_takeD (i := 1) (v := ?_) (some 114) rfl rfl (by kernel_rfl) (by kernel_rfl) (by kernel_rfl) (by kernel_rfl) (fun _ _ _ h => h) (Or.inl ⟨by rfl, ?_⟩) (by assumption) ?_
              rotate_left
              · (intro w_ hS_; (try dsimp only at hS_); go_simp; try with_reducible rfl)
              try simp only [Act.put, List.setIfInBounds_toArray, List.set_cons_zero, List.set_cons_succ]
              refine till_takeD (i := 2) (v := ?_) (some 115) rfl rfl (by kernel_rfl) (by kernel_rfl) (by kernel_rfl) (by kernel_rfl) (fun _ _ _ h => h) (Or.inl ⟨by rfl, ?_⟩) (by assumption) ?_
              rotate_left
              · (intro w_ hS_; (try dsimp only at hS_); go_simp; try with_reducible rfl)
              try simp only [Act.put, List.setIfInBounds_toArray, List.set_cons_zero, List.set_cons_succ]
              refine till_takeD (i := 3) (v := ?_) (some 116) rfl rfl (by kernel_rfl) (by kernel_rfl) (by kernel_rfl) (by kernel_rfl) (fun _ _ _ h => h) (Or.inl ⟨by rfl, ?_⟩) (by assumption) ?_
              rotate_left
              · (intro w_ hS_; (try dsimp only at hS_); go_simp; try with_reducible rfl)
              try simp only [Act.put, List.setIfInBounds_toArray, List.set_cons_zero, List.set_cons_succ]
              refine till_takeD (i := 4) (v := ?_) (some 117) rfl rfl (by kernel_rfl) (by kernel_rfl) (by kernel_rfl) (by kernel_rfl) (fun _ _ _ h => h) (Or.inl ⟨by rfl, ?_⟩) (by assumption) ?_
              rotate_left
              · (intro w_ hS_; (try dsimp only at hS_); go_simp; try with_reducible rfl)
              try simp only [Act.put, List.setIfInBounds_toArray, List.set_cons_zero, List.set_cons_succ]
              refine till_takeD (i := 5) (v := ?_) (some 118) rfl rfl (by kernel_rfl) (by kernel_rfl) (by kernel_rfl) (by kernel_rfl) (fun _ _ _ h => h) (Or.inl ⟨by rfl, ?_⟩) (by assumption) ?_
              rotate_left
              · (intro w_ hS_; (try dsimp only at hS_); go_simp; try with_reducible rfl)
              try simp only [Act.put, List.setIfInBounds_toArray, List.set_cons_zero, List.set_cons_succ]
              refine till_takeD (i := 6) (v := ?_) (some 119) rfl rfl (by kernel_rfl) (by kernel_rfl) (by kernel_rfl) (by kernel_rfl) (fun _ _ _ h => h) (Or.inl ⟨by rfl, ?_⟩) (by assumption) ?_
              rotate_left
              · (intro w_ hS_; (try dsimp only at hS_); go_simp; try with_reducible rfl)
              try simp only [Act.put, List.setIfInBounds_toArray, List.set_cons_zero, List.set_cons_succ]
              refine till_takeD (i := 9) (v := ?_) (some 122) rfl rfl (by kernel_rfl) (by kernel_rfl) (by kernel_rfl) (by kernel_rfl) (fun _ _ _ h => h) (Or.inl ⟨by rfl, ?_⟩) (by assumption) ?_
              rotate_left
              · (intro w_ hS_; (try dsimp only at hS_); go_simp; try with_reducible rfl)
              try simp only [Act.put, List.setIfInBounds_toArray, List.set_cons_zero, List.set_cons_succ]
              refine till_one (i := 7) (by kernel_rfl) rfl (fun K hK => ?_)
              go_simp
              go_at_call 17
              refine (posthouseref8_ViewOf.calls k x0 x1 x2 xA xa x3 xB xb x4 v0 vs _ (Kd.F_now (Kd.V_F HxV.out)) (Kd.V_at HxV.out).2.1 (Kd.F_now (Kd.V_F HxU.out)) (Kd.V_at HxU.out).2.1 G1.out).mono ?_
              rintro e w15 ⟨v1_, rfl, hv1, hb⟩
              obtain ⟨vA, va, rfl⟩ := Kd.R_slice hv1
              have HvR := Aside0.mk (Kd.R_V (base' := 0) hv1)
              clear hv1
              replace HXB := Aside0.mk (blk_call HXB.out hb)
              replace HTB := Aside0.mk (blk_call HTB.out hb)
              replace HxV := Aside0.mk (Kd.V_below HxV.out hb)
              replace HxU := Aside0.mk (Kd.V_below HxU.out hb)
              replace HyV := Aside0.mk (Kd.V_below HyV.out hb)
              replace HyU := Aside0.mk (Kd.V_below HyU.out hb)
              replace HB := Aside0.mk (below_step HB.out hb)
              clear hb
              refine hK.out _ _ trivial (fun _ _ => ⟨bc0 HXB.out 0, bc0 HXB.out 1, bc0 HXB.out 2, bc0 HXB.out 3, bc0 HXB.out 4, bc0 HTB.out 0, bc0 HTB.out 1, bc0 HTB.out 2, bc0 HTB.out 3, bc0 HTB.out 4⟩) (fun hTV => ?_)
              clear hK K hTU
              have hTU := hTV (by kernel_rfl) (by decide)
              clear hTV
              try simp only [Act.put, List.setIfInBounds_toArray, List.set_cons_zero, List.set_cons_succ]
              refine till_freeD (i := 8) (v := ?_) (some 121) rfl rfl (by decide) (by kernel_rfl) (by kernel_rfl) (by kernel_rfl) (fun _ _ _ h => h) (Or.inl ⟨by rfl, ?_⟩) ⟨hTU.1, fun _ => hTU.2⟩ ?_
              rotate_left
              · (intro w_ _; go_simp; try with_reducible rfl)
              try simp only [Act.put, List.setIfInBounds_toArray, List.set_cons_zero, List.set_cons_succ]
              refine till_one (i := 10) (by kernel_rfl) rfl (fun K hK => ?_)
              go_simp
              go_at_call 17
              refine (posthouseref8_ViewOf.calls k y0 y1 y2 yA ya y3 yB yb y4 z0 zs _ (Kd.F_now (Kd.V_F HyV.out)) (Kd.V_at HyV.out).2.1 (Kd.F_now (Kd.V_F HyU.out)) (Kd.V_at HyU.out).2.1 G2.out).mono ?_
              rintro e w16 ⟨v1_, rfl, hv1, hb⟩
              obtain ⟨zA, za, rfl⟩ := Kd.R_slice hv1
              have HzR := Aside0.mk (Kd.R_V (base' := 0) hv1)
              clear hv1
              replace HXB := Aside0.mk (blk_call HXB.out hb)
              replace HTB := Aside0.mk (blk_call HTB.out hb)
              replace HxV := Aside0.mk (Kd.V_below HxV.out hb)
              replace HxU := Aside0.mk (Kd.V_below HxU.out hb)
              replace HyV := Aside0.mk (Kd.V_below HyV.out hb)
              replace HyU := Aside0.mk (Kd.V_below HyU.out hb)
              replace HvR := Aside0.mk (Kd.V_below HvR.out hb)
              replace HB := Aside0.mk (below_step HB.out hb)
              clear hb
              refine hK.out _ _ trivial (fun _ _ => ⟨bc0 HXB.out 0, bc0 HXB.out 1, bc0 HXB.out 2, bc0 HXB.out 3, bc0 HXB.out 4, bc0 HTB.out 0, bc0 HTB.out 1, bc0 HTB.out 2, bc0 HTB.out 3, bc0 HTB.out 4⟩) (fun hTV => ?_)
              clear hK K hTU
              have hTU := hTV (by kernel_rfl) (by decide)
              clear hTV
              try simp only [Act.put, List.setIfInBounds_toArray, List.set_cons_zero, List.set_cons_succ]
              refine till_freeD (i := 11) (v := ?_) (some 124) rfl rfl (by decide) (by kernel_rfl) (by kernel_rfl) (by kernel_rfl) (fun _ _ _ h => h) (Or.inl ⟨by rfl, ?_⟩) ⟨hTU.1, fun _ => hTU.2⟩ ?_
              rotate_left
              · (intro w_ _; go_simp; try with_reducible rfl)
              try simp only [Act.put, List.setIfInBounds_toArray, List.set_cons_zero, List.set_cons_succ]
              refine till_one (i := 12) (by kernel_rfl) rfl (fun K hK => ?_)
              go_simp
              go_at_call 16
              refine (posthouseref8_SameSeen.calls k vA va vs zA za zs true _ (Kd.F_now (Kd.V_F HvR.out)) (Kd.V_at HvR.out).2.1 (Kd.F_now (Kd.V_F HzR.out)) (Kd.V_at HzR.out).2.1 G3.out).mono ?_
              rintro e w17 ⟨rfl, hd⟩
              have hb := hd.below
              clear hd
              replace HXB := Aside0.mk (blk_call HXB.out hb)
              replace HTB := Aside0.mk (blk_call HTB.out hb)
              replace HxV := Aside0.mk (Kd.V_below HxV.out hb)
              replace HxU := Aside0.mk (Kd.V_below HxU.out hb)
              replace HyV := Aside0.mk (Kd.V_below HyV.out hb)
              replace HyU := Aside0.mk (Kd.V_below HyU.out hb)
              replace HvR := Aside0.mk (Kd.V_below HvR.out hb)
              replace HzR := Aside0.mk (Kd.V_below HzR.out hb)
              replace HB := Aside0.mk (below_step HB.out hb)
              clear hb
              refine hK.out _ _ trivial (fun _ _ => ⟨bc0 HXB.out 0, bc0 HXB.out 1, bc0 HXB.out 2, bc0 HXB.out 3, bc0 HXB.out 4, bc0 HTB.out 0, bc0 HTB.out 1, bc0 HTB.out 2, bc0 HTB.out 3, bc0 HTB.out 4⟩) (fun hTV => ?_)
              clear hK K hTU
              have hTU := hTV (by kernel_rfl) (by decide)
              clear hTV
              try simp only [Act.put, List.setIfInBounds_toArray, List.set_cons_zero, List.set_cons_succ]
              refine till_freeD (i := 13) (v := ?_) (some 126) rfl rfl (by decide) (by kernel_rfl) (by kernel_rfl) (by kernel_rfl) (fun _ _ _ h => h) (Or.inl ⟨by rfl, ?_⟩) ⟨hTU.1, fun _ => hTU.2⟩ ?_
              rotate_left
              · (intro w_ _; go_simp; try with_reducible rfl)
              try simp only [Act.put, List.setIfInBounds_toArray, List.set_cons_zero, List.set_cons_succ]
              refine till_one (i := 14) (by kernel_rfl) rfl (fun K hK => ?_)
              go_simp
              refine hK.out _ _ trivial (fun _ h => absurd rfl h) (fun _ => ?_)
              clear hK K hTU
              refine till_done (by kernel_rfl) ?_ _
              go_wp2
              go_ret
              exact ⟨rfl, HB.out⟩


end Go.Proofs.YtbnmddippoiabaaDoor.P
