/- The law of the rising numbers: the walk for every argument. -/
import Derived.Test.YtlaglkcgmhgacaaDoorRa34
import Derived.Test.YtlaglkcgmhgacaaDoorRa36
import Derived.Test.YtlaglkcgmhgacaaDoorRa37
namespace Go.Proofs.YtlaglkcgmhgacaaDoor.P
open Go.RowKit Go.Proofs.YtlaglkcgmhgacaaDoorW.PrintWords Go.Proofs.YtlaglkcgmhgacaaDoorW.PrintLast Go.Proofs.YtlaglkcgmhgacaaDoorW.PrintMore
set_option linter.unusedVariables false
/-- MAILBOXNUMBERSRISE ANSWERS YES, whatever its arguments hold. -/
theorem MailboxNumbersRise_walk (a0 a1 a2 : Int) (aA : Option Addr) (aa : Nat) (a3 : List (S58)) (aB : Option Addr) (ab : Nat) (a4 : List (S61)) (c0 c1 c2 c3 c4 : Int) (cA : Option Addr) (ca : Nat) (c5 : List (S77)) (cB : Option Addr) (cb : Nat) (c6 : List Int) (w : World) (wa : WFBox a3 a4) (ha3 : Kd.C k58 w aA a3.length a3) (ea3 : a3.length ≤ aa) (ha4 : Kd.C k61 w aB a4.length a4) (ea4 : a4.length ≤ ab) (wc : WFMsg c5 c6) (hc5 : Kd.C k77 w cA c5.length c5) (ec5 : c5.length ≤ ca) (hc6 : Kd.C (Kd.int .u8) w cB c6.length c6) (ec6 : c6.length ≤ cb) :
    Calls Tryd.prog 4 #[.agg #[.int .i64 a0, .int .i64 a1, .int .i64 a2, .slice aA a3.length aa, .slice aB a4.length ab], .agg #[.int .i64 c0, .int .i64 c1, .int .i64 c2, .int .i64 c3, .int .i64 c4, .slice cA c5.length ca, .slice cB c6.length cb]] w fun e w' => e = .returned (.bool true) ∧ Below w.heap.size w w' := by
  rcases apply_ev (a0 := a0) (a1 := a1) (a2 := a2) (c0 := c0) (c1 := c1) (c2 := c2) (c3 := c3) (c4 := c4) wa wc with ⟨q, r, hq, K, hK⟩ | ⟨hb, hc, hp, hm⟩
  · exact NumbersRise_a K a0 a1 a2 aA aa a3 aB ab a4 c0 c1 c2 c3 c4 cA ca c5 cB cb c6 0 0 0 [] [] q r w ha3 ea3 ha4 ea4 hc5 ec5 hc6 ec6 (hK K (Nat.le_refl _)) boxExample_true (by simpa using hq) (same_refl _ _ _ _ _)
  · obtain ⟨r0, r1, r2, r3, r4, e⟩ : ∃ r0 r1 r2 r3 r4, mailbox_Do.m a0 a1 a2 a3 a4 c0 c1 c2 c3 c4 c5 c6 = (r0, r1, r2, r3, r4) := ⟨_, _, _, _, _, rfl⟩
    obtain ⟨K, hK⟩ := hm _ e
    have nx := do_next hb hc hp wa wc e
    obtain ⟨v, ⟨K', hK'⟩, hv1, hv2⟩ := box_ev (a0 := r0) (a1 := r1) (a2 := r2) nx.wf
    have v1 := hv2.2 nx.ok
    have v2 : v = (0, 0) := Prod.ext v1 (hv1 v1)
    have g1 := hK (max K K') (Nat.le_max_left _ _)
    have g2 := hK' (max K K') (Nat.le_max_right _ _)
    rw [v2] at g2
    have hu0 := hb.u0
    have hu1 := hb.u1
    have hs0 := hb.s0
    have hs1 := hb.s1
    have nh := nx.h
    have d0 : 0 ≤ r0 - a0 ∧ r0 - a0 ≤ 1 := by rcases nx.u with h | h <;> omega
    have d1 : 0 ≤ r1 - a1 ∧ r1 - a1 ≤ 1 := by rcases nx.s with ⟨h, _⟩ | h <;> omega
    have w0 : inB (wrap64 (r0 - a0)) 0 1 = true := by
      rw [show wrap64 (r0 - a0) = r0 - a0 from by unfold wrap64; omega]
      exact inB_iff.2 d0
    have w1 : inB (wrap64 (r1 - a1)) 0 1 = true := by
      rw [show wrap64 (r1 - a1) = r1 - a1 from by unfold wrap64; omega]
      exact inB_iff.2 d1
    have w2 : decide (r2 < a2) = false := decide_eq_false (by omega)
    rcases nx.s with ⟨e1, e0, e2, e3, e4⟩ | h
    · have w3 : decide (a1 < r1) = false := decide_eq_false (by omega)
      exact NumbersRise_c (max K K') a0 a1 a2 aA aa a3 aB ab a4 c0 c1 c2 c3 c4 cA ca c5 cB cb c6 r0 r1 r2 r3 r4 0 0 w ha3 ea3 ha4 ea4 hc5 ec5 hc6 ec6 g1 boxExample_true 0 rfl g2 w0 w1 w2 w3 (by rw [e0, e1, e2, e3, e4]; exact same_refl _ _ _ _ _)
    · have w3 : decide (a1 < r1) = true := decide_eq_true (by omega)
      exact NumbersRise_b (max K K') a0 a1 a2 aA aa a3 aB ab a4 c0 c1 c2 c3 c4 cA ca c5 cB cb c6 r0 r1 r2 r3 r4 0 0 w ha3 ea3 ha4 ea4 hc5 ec5 hc6 ec6 g1 boxExample_true 0 rfl g2 w0 w1 w2 w3
end Go.Proofs.YtlaglkcgmhgacaaDoor.P
