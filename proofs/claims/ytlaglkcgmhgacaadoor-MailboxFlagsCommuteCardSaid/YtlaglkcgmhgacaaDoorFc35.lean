/- The law of the flags of two messages: the walk for every argument. -/
import Derived.Test.YtlaglkcgmhgacaaDoorFc31
import Derived.Test.YtlaglkcgmhgacaaDoorFc33
import Derived.Test.YtlaglkcgmhgacaaDoorFc34
namespace Go.Proofs.YtlaglkcgmhgacaaDoor.P
open Go.RowKit Go.Proofs.YtlaglkcgmhgacaaDoorW.PrintWords Go.Proofs.YtlaglkcgmhgacaaDoorW.PrintLast Go.Proofs.YtlaglkcgmhgacaaDoorW.PrintMore
set_option linter.unusedVariables false
/-- MAILBOXFLAGSCOMMUTE ANSWERS YES, whatever its arguments hold. -/
theorem MailboxFlagsCommute_walk (a0 a1 a2 : Int) (aA : Option Addr) (aa : Nat) (a3 : List (S58)) (aB : Option Addr) (ab : Nat) (a4 : List (S61)) (c0 c1 c2 c3 c4 : Int) (cA : Option Addr) (ca : Nat) (c5 : List (S77)) (cB : Option Addr) (cb : Nat) (c6 : List Int) (d0 d1 d2 d3 d4 : Int) (dA : Option Addr) (da : Nat) (d5 : List (S77)) (dB : Option Addr) (db : Nat) (d6 : List Int) (w : World) (wa : WFBox a3 a4) (ha3 : Kd.C k58 w aA a3.length a3) (ea3 : a3.length ≤ aa) (ha4 : Kd.C k61 w aB a4.length a4) (ea4 : a4.length ≤ ab) (wc : WFMsg c5 c6) (hc5 : Kd.C k77 w cA c5.length c5) (ec5 : c5.length ≤ ca) (hc6 : Kd.C (Kd.int .u8) w cB c6.length c6) (ec6 : c6.length ≤ cb) (wd : WFMsg d5 d6) (hd5 : Kd.C k77 w dA d5.length d5) (ed5 : d5.length ≤ da) (hd6 : Kd.C (Kd.int .u8) w dB d6.length d6) (ed6 : d6.length ≤ db) :
    Calls Tryd.prog 5 #[.agg #[.int .i64 a0, .int .i64 a1, .int .i64 a2, .slice aA a3.length aa, .slice aB a4.length ab], .agg #[.int .i64 c0, .int .i64 c1, .int .i64 c2, .int .i64 c3, .int .i64 c4, .slice cA c5.length ca, .slice cB c6.length cb], .agg #[.int .i64 d0, .int .i64 d1, .int .i64 d2, .int .i64 d3, .int .i64 d4, .slice dA d5.length da, .slice dB d6.length db]] w fun e w' => e = .returned (.bool true) ∧ Below w.heap.size w w' := by
  cases g1 : (c0 != 2)
  case true => exact FlagsCommute_g1 0 a0 a1 a2 aA aa a3 aB ab a4 c0 c1 c2 c3 c4 cA ca c5 cB cb c6 d0 d1 d2 d3 d4 dA da d5 dB db d6 w ha3 ea3 ha4 ea4 hc5 ec5 hc6 ec6 hd5 ed5 hd6 ed6 boxExample_true g1
  cases g2 : (d0 != 2)
  case true => exact FlagsCommute_g2 0 a0 a1 a2 aA aa a3 aB ab a4 c0 c1 c2 c3 c4 cA ca c5 cB cb c6 d0 d1 d2 d3 d4 dA da d5 dB db d6 w ha3 ea3 ha4 ea4 hc5 ec5 hc6 ec6 hd5 ed5 hd6 ed6 boxExample_true g1 g2
  cases g3 : (c1 == d1)
  case true => exact FlagsCommute_g3 0 a0 a1 a2 aA aa a3 aB ab a4 c0 c1 c2 c3 c4 cA ca c5 cB cb c6 d0 d1 d2 d3 d4 dA da d5 dB db d6 w ha3 ea3 ha4 ea4 hc5 ec5 hc6 ec6 hd5 ed5 hd6 ed6 boxExample_true g1 g2 g3
  obtain ⟨r0, r1, r2, r3, r4, r5, r6, ⟨K1, h1⟩, wr, z1⟩ := apply_any (a0 := a0) (a1 := a1) (a2 := a2) (c0 := c0) (c1 := c1) (c2 := c2) (c3 := c3) (c4 := c4) wa wc
  obtain ⟨s0, s1, s2, s3, s4, s5, s6, ⟨K2, h2⟩, ws, z2⟩ := apply_any (a0 := r0) (a1 := r1) (a2 := r2) (c0 := d0) (c1 := d1) (c2 := d2) (c3 := d3) (c4 := d4) wr wd
  obtain ⟨u0, u1, u2, u3, u4, u5, u6, ⟨K3, h3⟩, wu, z3⟩ := apply_any (a0 := a0) (a1 := a1) (a2 := a2) (c0 := d0) (c1 := d1) (c2 := d2) (c3 := d3) (c4 := d4) wa wd
  obtain ⟨v0, v1, v2, v3, v4, v5, v6, ⟨K4, h4⟩, wv, z4⟩ := apply_any (a0 := u0) (a1 := u1) (a2 := u2) (c0 := c0) (c1 := c1) (c2 := c2) (c3 := c3) (c4 := c4) wu wc
  have p1 := fun k (hk : max (max K1 K2) (max K3 K4) ≤ k) => h1 k (by omega)
  have p2 := fun k (hk : max (max K1 K2) (max K3 K4) ≤ k) => h2 k (by omega)
  have p3 := fun k (hk : max (max K1 K2) (max K3 K4) ≤ k) => h3 k (by omega)
  have p4 := fun k (hk : max (max K1 K2) (max K3 K4) ≤ k) => h4 k (by omega)
  generalize max (max K1 K2) (max K3 K4) = K at p1 p2 p3 p4
  clear h1 h2 h3 h4
  cases q1 : (r5 != 0)
  case true => exact FlagsCommute_e1 K a0 a1 a2 aA aa a3 aB ab a4 c0 c1 c2 c3 c4 cA ca c5 cB cb c6 d0 d1 d2 d3 d4 dA da d5 dB db d6 w ha3 ea3 ha4 ea4 hc5 ec5 hc6 ec6 hd5 ed5 hd6 ed6 boxExample_true r0 r1 r2 r3 r4 r5 r6 s0 s1 s2 s3 s4 s5 s6 u0 u1 u2 u3 u4 u5 u6 v0 v1 v2 v3 v4 v5 v6 g1 g2 g3 (p1 K (Nat.le_refl _)) (p2 K (Nat.le_refl _)) (p3 K (Nat.le_refl _)) (p4 K (Nat.le_refl _)) q1
  cases q2 : (s5 != 0)
  case true => exact FlagsCommute_e2 K a0 a1 a2 aA aa a3 aB ab a4 c0 c1 c2 c3 c4 cA ca c5 cB cb c6 d0 d1 d2 d3 d4 dA da d5 dB db d6 w ha3 ea3 ha4 ea4 hc5 ec5 hc6 ec6 hd5 ed5 hd6 ed6 boxExample_true r0 r1 r2 r3 r4 r5 r6 s0 s1 s2 s3 s4 s5 s6 u0 u1 u2 u3 u4 u5 u6 v0 v1 v2 v3 v4 v5 v6 g1 g2 g3 (p1 K (Nat.le_refl _)) (p2 K (Nat.le_refl _)) (p3 K (Nat.le_refl _)) (p4 K (Nat.le_refl _)) q1 q2
  cases q3 : (u5 != 0)
  case true => exact FlagsCommute_e3 K a0 a1 a2 aA aa a3 aB ab a4 c0 c1 c2 c3 c4 cA ca c5 cB cb c6 d0 d1 d2 d3 d4 dA da d5 dB db d6 w ha3 ea3 ha4 ea4 hc5 ec5 hc6 ec6 hd5 ed5 hd6 ed6 boxExample_true r0 r1 r2 r3 r4 r5 r6 s0 s1 s2 s3 s4 s5 s6 u0 u1 u2 u3 u4 u5 u6 v0 v1 v2 v3 v4 v5 v6 g1 g2 g3 (p1 K (Nat.le_refl _)) (p2 K (Nat.le_refl _)) (p3 K (Nat.le_refl _)) (p4 K (Nat.le_refl _)) q1 q2 q3
  cases q4 : (v5 != 0)
  case true => exact FlagsCommute_e4 K a0 a1 a2 aA aa a3 aB ab a4 c0 c1 c2 c3 c4 cA ca c5 cB cb c6 d0 d1 d2 d3 d4 dA da d5 dB db d6 w ha3 ea3 ha4 ea4 hc5 ec5 hc6 ec6 hd5 ed5 hd6 ed6 boxExample_true r0 r1 r2 r3 r4 r5 r6 s0 s1 s2 s3 s4 s5 s6 u0 u1 u2 u3 u4 u5 u6 v0 v1 v2 v3 v4 v5 v6 g1 g2 g3 (p1 K (Nat.le_refl _)) (p2 K (Nat.le_refl _)) (p3 K (Nat.le_refl _)) (p4 K (Nat.le_refl _)) q1 q2 q3 q4
  obtain ⟨ba, br, pr, er⟩ := z1 (by simpa using q1)
  obtain ⟨_, bs, ps, es⟩ := z2 (by simpa using q2)
  obtain ⟨_, bu, pu, eu⟩ := z3 (by simpa using q3)
  obtain ⟨_, bv, pv, ev⟩ := z4 (by simpa using q4)
  have kc : c0 = 2 := by simpa using g1
  have kd : d0 = 2 := by simpa using g2
  have ne : c1 ≠ d1 := by simpa using g3
  obtain ⟨n, x, hn, hx, hx0⟩ := place_at (pr.2.2 (by omega))
  obtain ⟨m, y, hm, hy, hy0⟩ := place_at (pu.2.2 (by omega))
  have hmn : m ≠ n := by
    intro e
    subst e
    rw [hx] at hy
    cases hy
    exact ne (hx0.symm.trans hy0)
  obtain ⟨f1, f2, f3⟩ := two_flags ba br kc kd hmn hn hx hm hy er es
  obtain ⟨t1, t2, t3⟩ := two_flags ba bu kd kc (Ne.symm hmn) hm hy hn hx eu ev
  have e1 : s1 = v1 := by omega
  have e2 : s3.map seenOf = v3.map seenOf := by rw [f2, t2, List.set_comm _ _ (Ne.symm hmn)]
  have l1 := bs.n3
  have l2 := bv.n3
  obtain ⟨K5, h5⟩ := view_ev s0 s1 s2 s3 s4 (by omega)
  obtain ⟨K6, h6⟩ := view_ev v0 v1 v2 v3 v4 (by omega)
  obtain ⟨K7, h7⟩ := seen_ev (s3.map seenOf) (by rw [List.length_map]; omega)
  have w1 := h5 (max (max K5 K6) (max K7 K)) (by omega)
  have w2 := h6 (max (max K5 K6) (max K7 K)) (by omega)
  have w3 := h7 (max (max K5 K6) (max K7 K)) (by omega)
  rw [← e2] at w2
  exact FlagsCommute_ok (max (max K5 K6) (max K7 K)) a0 a1 a2 aA aa a3 aB ab a4 c0 c1 c2 c3 c4 cA ca c5 cB cb c6 d0 d1 d2 d3 d4 dA da d5 dB db d6 w ha3 ea3 ha4 ea4 hc5 ec5 hc6 ec6 hd5 ed5 hd6 ed6 boxExample_true r0 r1 r2 r3 r4 r5 r6 s0 s1 s2 s3 s4 s5 s6 u0 u1 u2 u3 u4 u5 u6 v0 v1 v2 v3 v4 v5 v6 g1 g2 g3 (p1 _ (by omega)) (p2 _ (by omega)) (p3 _ (by omega)) (p4 _ (by omega)) q1 q2 q3 q4 s1 v1 (s3.map seenOf) (s3.map seenOf) (by simpa using e1) w1 w2 w3
end Go.Proofs.YtlaglkcgmhgacaaDoor.P
