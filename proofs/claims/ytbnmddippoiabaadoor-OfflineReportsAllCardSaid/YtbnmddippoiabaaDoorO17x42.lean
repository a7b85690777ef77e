/- The law that there is one outcome for each change, and that a client that catches up sees the mailbox: the walk for every argument. -/
import Derived.Test.YtbnmddippoiabaaDoorO17x29
import Derived.Test.YtbnmddippoiabaaDoorO17x39
import Derived.Test.YtbnmddippoiabaaDoorO17x40
import Derived.Test.YtbnmddippoiabaaDoorO17x41
namespace Go.Proofs.YtbnmddippoiabaaDoor.P
open Go.RowKit Go.Proofs.YtbnmddippoiabaaDoorW.PrintWords Go.Proofs.YtbnmddippoiabaaDoorW.PrintLast Go.Proofs.YtbnmddippoiabaaDoorW.PrintMore
set_option linter.unusedVariables false
/-- OFFLINEREPORTSALL ANSWERS YES, whatever its arguments hold. -/
theorem OfflineReportsAll_walk (a0 a1 a2 : Int) (aA : Option Addr) (aa : Nat) (a3 : List (S55)) (aB : Option Addr) (ab : Nat) (a4 : List (S75)) (qA : Option Addr) (qa : Nat) (ql : List (S43)) (w : World) (wa : WFBox a3 a4) (ha3 : Kd.C k55 w aA a3.length a3) (ea3 : a3.length ≤ aa) (ha4 : Kd.C k75 w aB a4.length a4) (ea4 : a4.length ≤ ab) (hql : Kd.C k43 w qA ql.length ql) (eql : ql.length ≤ qa) (hqw : ∀ q ∈ ql, (Lit.int .i64 q.f0).wf = true) :
    Calls Tryd.prog 6 #[.agg #[.int .i64 a0, .int .i64 a1, .int .i64 a2, .slice aA a3.length aa, .slice aB a4.length ab], .slice qA ql.length qa] w fun e w' => e = .returned (.bool true) ∧ Below w.heap.size w w' := by
  have hex : ∀ w, Calls Tryd.prog 12 #[] w fun e w' => e = .returned (.bool true) ∧ Below w.heap.size w w' := fun w => posthouselaw8_offlineExample.calls 0 true w rfl
  obtain ⟨v0, vs, q, q', ⟨K1, hK1⟩, hz, -⟩ := of_ev (a0 := a0) (a1 := a1) (a2 := a2) wa
  obtain ⟨r0, r1, r2, r3, r4, sl, s5, s6, ⟨K2, hK2⟩, hm, wr⟩ := merge_ev (a0 := a0) (a1 := a1) (a2 := a2) wa a1 ql
  have g1 := hK1 (max K1 K2) (by omega)
  have g2 := hK2 (max K1 K2) (by omega)
  by_cases h1 : q = 0
  · obtain ⟨hb, e0, es⟩ := hz h1
    by_cases h2 : s5 = 0
    · obtain ⟨-, -, -, -, hq, hr, hs⟩ := hm h2
      have hok := (merge_keeps a1 ql a0 a1 a2 a3 a4 [] r0 r1 r2 r3 r4 hq hb wa hr).1
      have hk := merge_since a1 a1 a3 ql a0 a1 a2 a3 a4 [] r0 r1 r2 r3 r4 hq hb wa (keep_start hb) hr
      have hr0 := hok.s0
      have hr1 := hok.s1
      obtain ⟨K3, hK3⟩ := catch_ev wr hb hok hk.si hk.sa hk.hz
      have hvm := vmap_ok hok
      obtain ⟨o, f, f', ⟨K4, hK4⟩, hsame⟩ := same_ev (v0 := r1) (vs := vmap r3) (a0 := r0) (a1 := r1) (a2 := r2) (vval_ok hvm (by omega) (by omega)) (Nat.le_trans hvm.n (by omega)) wr
      obtain ⟨f0, f0', ho⟩ := hsame hok
      have hlen : sl.length = ql.length := by rw [← hs]; exact mergeAll_length _ _ _ _ _ _ _ _
      have hle : ∃ K, K1 ≤ K ∧ K2 ≤ K ∧ K3 ≤ K ∧ K4 ≤ K := ⟨K1 + K2 + K3 + K4, by omega, by omega, by omega, by omega⟩
      obtain ⟨K, k1, k2, k3, k4⟩ := hle
      have j3 := hK3 K k3
      have j4 := hK4 K k4
      rw [f0, ho, decide_eq_true rfl] at j4
      rw [← e0, ← es] at j3
      exact OffReports_c K a0 a1 a2 aA aa a3 aB ab a4 qA qa ql v0 vs q q' r0 r1 r2 r3 r4 s5 s6 sl w ha3 ea3 ha4 ea4 hql eql hqw (fun h => box_wf wa h) hex (hK1 K k1) (hK2 K k2) (by rw [h1]; rfl) (by rw [h2]; rfl) hlen r1 (vmap r3) false 0 f' j3 j4
    · exact OffReports_b _ a0 a1 a2 aA aa a3 aB ab a4 qA qa ql v0 vs q q' r0 r1 r2 r3 r4 s5 s6 sl w ha3 ea3 ha4 ea4 hql eql hqw (fun h => box_wf wa h) hex g1 g2 (by rw [h1]; rfl) (bne_iff_ne.2 h2)
  · exact OffReports_a _ a0 a1 a2 aA aa a3 aB ab a4 qA qa ql v0 vs q q' r0 r1 r2 r3 r4 s5 s6 sl w ha3 ea3 ha4 ea4 hql eql hqw (fun h => box_wf wa h) hex g1 g2 (bne_iff_ne.2 h1)
end Go.Proofs.YtbnmddippoiabaaDoor.P
