/- Several texts in one, each in its own section. The last: How an argument that is a limit is opened. -/
import Derived.Test.YtbolikomoenmaaaDoorQf35
import Derived.Test.YtbolikomoenmaaaDoorQf40
import Derived.Test.YtbolikomoenmaaaDoorQf41
import Derived.Test.YtbolikomoenmaaaDoorQf11
/- The law that a message fits just if the mailbox with it does not exceed the limit: the walk for every argument. -/
section
namespace Go.Proofs.YtbolikomoenmaaaDoor.P
open Go.RowKit Go.Proofs.YtbolikomoenmaaaDoorW.PrintWords Go.Proofs.YtbolikomoenmaaaDoorW.PrintLast Go.Proofs.YtbolikomoenmaaaDoorW.PrintMore
set_option linter.unusedVariables false
/-- QUOTAFITSISUSED ANSWERS YES, whatever its arguments hold. -/
theorem QuotaFitsIsUsed_walk (a0 a1 a2 : Int) (aA : Option Addr) (aa : Nat) (a3 : List (S68)) (aB : Option Addr) (ab : Nat) (a4 : List (S72)) (m0 m1 : Int) (xA : Option Addr) (xa : Nat) (x5 : List (S70)) (xB : Option Addr) (xb : Nat) (x6 : List Int) (w : World) (wa : WFBox a3 a4) (ha3 : Kd.C k68 w aA a3.length a3) (ea3 : a3.length ≤ aa) (ha4 : Kd.C k72 w aB a4.length a4) (ea4 : a4.length ≤ ab) (wx : WFMsg x5 x6) (hx5 : Kd.C k70 w xA x5.length x5) (ex5 : x5.length ≤ xa) (hx6 : Kd.C (Kd.int .u8) w xB x6.length x6) (ex6 : x6.length ≤ xb) :
    Calls Tryd.prog 3 #[.agg #[.int .i64 a0, .int .i64 a1, .int .i64 a2, .slice aA a3.length aa, .slice aB a4.length ab], .agg #[.int .i64 m0, .int .i64 m1], .agg #[.slice xA x5.length xa, .slice xB x6.length xb]] w fun e w' => e = .returned (.bool true) ∧ Below w.heap.size w w' := by
  obtain ⟨o, q, q', ⟨K, hK⟩, hf⟩ := fits_ev (a0 := a0) (a1 := a1) (a2 := a2) (l3 := a3) (l4 := a4) m0 m1 x5 x6 wa wx
  obtain ⟨r0, r1, r2, r3, r4, s5, s6, ⟨K2, hK2⟩, hap⟩ := add_ev (a0 := a0) (a1 := a1) (a2 := a2) wa wx
  by_cases c1 : q = 0
  · have q1 : (q != 0) = false := by rw [c1]; rfl
    by_cases c2 : s5 = 0
    · have q2 : (s5 != 0) = false := by rw [c2]; rfl
      obtain ⟨hb, hr, hrw, rfl⟩ := hap c2
      obtain ⟨n, hn⟩ := Sizes.all a3 (fun x hx => wa.2.2 x hx)
      obtain ⟨s, hs, -⟩ := size_ev x5 x6 wx
      have ho := (hf c1).2 n s hn hs
      obtain ⟨K3, hK3⟩ := used_ev hrw hr (Sizes.append hn (x := ⟨a0, a1, 0, 0, ⟨x5, x6⟩⟩) hs)
      have g1 := hK (max K (max K2 K3)) (by omega)
      have g2 := hK2 (max K (max K2 K3)) (by omega)
      have g3 := hK3 (max K (max K2 K3)) (by omega)
      rw [List.length_append, List.length_singleton] at g3
      have e1 : ((n + s : Nat) : Int) = (n : Int) + s := by omega
      have e2 : ((a3.length + 1 : Nat) : Int) = (a3.length : Int) + 1 := by omega
      rw [e1, e2] at g3
      by_cases c3 : (n : Int) + s ≤ m0
      · rw [decide_eq_true c3, Bool.true_and] at ho
        exact QuotaFits_c _ a0 a1 a2 aA aa a3 aB ab a4 m0 m1 xA xa x5 xB xb x6 _ _ _ _ _ _ _ o q q' w ha3 ea3 ha4 ea4 hx5 ex5 hx6 ex6 quotaExample_true g1 g2 q1 q2 _ _ _ g3 (decide_eq_true c3) ho.symm
      · rw [decide_eq_false c3, Bool.false_and] at ho
        exact QuotaFits_d _ a0 a1 a2 aA aa a3 aB ab a4 m0 m1 xA xa x5 xB xb x6 _ _ _ _ _ _ _ o q q' w ha3 ea3 ha4 ea4 hx5 ex5 hx6 ex6 quotaExample_true g1 g2 q1 q2 _ _ _ g3 (decide_eq_false c3) ho
    · exact QuotaFits_b (max K K2) a0 a1 a2 aA aa a3 aB ab a4 m0 m1 xA xa x5 xB xb x6 _ _ _ _ _ _ _ o q q' w ha3 ea3 ha4 ea4 hx5 ex5 hx6 ex6 quotaExample_true (hK _ (by omega)) (hK2 _ (by omega)) q1 (bne_iff_ne.2 c2)
  · exact QuotaFits_a (max K K2) a0 a1 a2 aA aa a3 aB ab a4 m0 m1 xA xa x5 xB xb x6 _ _ _ _ _ _ _ o q q' w ha3 ea3 ha4 ea4 hx5 ex5 hx6 ex6 quotaExample_true (hK _ (by omega)) (hK2 _ (by omega)) (bne_iff_ne.2 c1)
end Go.Proofs.YtbolikomoenmaaaDoor.P
end
/- How an argument that is a limit is opened. -/
section
namespace Go.Proofs.YtbolikomoenmaaaDoor.P
open Go.RowKit Go.Proofs.YtbolikomoenmaaaDoorW.PrintWords Go.Proofs.YtbolikomoenmaaaDoorW.PrintLast Go.Proofs.YtbolikomoenmaaaDoorW.PrintMore Go.Proofs.YtbolikomoenmaaaDoor.OpenK
set_option linter.unusedVariables false
set_option maxRecDepth 100000
theorem opLimit : Opens Tryd.prog 27 (Kd.pair (Kd.int .i64) (Kd.int .i64)) (fun _ => True) :=
  opens_imp (opens_struct Tryd.underlying27 (by kernel_rfl) (opensF_cons opInt rfl (opensF_one opInt rfl))) (fun _ _ => trivial)
theorem arg_limit {H : Type} {enc : TypeId × Value → H} {W : World} {base : Nat} {v : Value} {d : DataW H} {ps : List MemPlace} (hv : Value.okWide Tryd.prog W .any base 27 v) (hs : Small Tryd.prog 27 d) (h : DataW.Trod enc Tryd.prog W 0 (fun _ => true) true 27 v d ps) :
    ∃ m0 m1 : Int, v = .agg #[.int .i64 m0, .int .i64 m1] := by
  obtain ⟨cs, rfl, _⟩ := WideShapes.okWide_struct Tryd.underlying27 hv
  obtain ⟨fuel, hf⟩ := h
  obtain ⟨b, hb, wf⟩ := opLimit.op hf hs
  obtain ⟨c1, c2, hcs, rfl, rfl⟩ := hb
  obtain rfl : cs = #[.int .i64 b.1, .int .i64 b.2] := Array.toList_inj.1 hcs
  exact ⟨b.1, b.2, rfl⟩
end Go.Proofs.YtbolikomoenmaaaDoor.P
end
