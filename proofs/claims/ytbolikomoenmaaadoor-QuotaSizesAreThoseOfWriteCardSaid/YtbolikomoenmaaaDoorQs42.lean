/- The law that the size of a mailbox grows by the length of what Write returns: the walk for every argument. -/
import Derived.Test.YtbolikomoenmaaaDoorQs35
import Derived.Test.YtbolikomoenmaaaDoorQs40
import Derived.Test.YtbolikomoenmaaaDoorQs41
namespace Go.Proofs.YtbolikomoenmaaaDoor.P
open Go.RowKit Go.Proofs.YtbolikomoenmaaaDoorW.PrintWords Go.Proofs.YtbolikomoenmaaaDoorW.PrintLast Go.Proofs.YtbolikomoenmaaaDoorW.PrintMore
set_option linter.unusedVariables false
/-- QUOTASIZESARETHOSEOFWRITE ANSWERS YES, whatever its arguments hold. -/
theorem QuotaSizesAreThoseOfWrite_walk (a0 a1 a2 : Int) (aA : Option Addr) (aa : Nat) (a3 : List (S68)) (aB : Option Addr) (ab : Nat) (a4 : List (S72)) (xA : Option Addr) (xa : Nat) (x5 : List (S70)) (xB : Option Addr) (xb : Nat) (x6 : List Int) (w : World) (wa : WFBox a3 a4) (ha3 : Kd.C k68 w aA a3.length a3) (ea3 : a3.length ≤ aa) (ha4 : Kd.C k72 w aB a4.length a4) (ea4 : a4.length ≤ ab) (wx : WFMsg x5 x6) (hx5 : Kd.C k70 w xA x5.length x5) (ex5 : x5.length ≤ xa) (hx6 : Kd.C (Kd.int .u8) w xB x6.length x6) (ex6 : x6.length ≤ xb) :
    Calls Tryd.prog 5 #[.agg #[.int .i64 a0, .int .i64 a1, .int .i64 a2, .slice aA a3.length aa, .slice aB a4.length ab], .agg #[.slice xA x5.length xa, .slice xB x6.length xb]] w fun e w' => e = .returned (.bool true) ∧ Below w.heap.size w w' := by
  obtain ⟨y, q, q', hy, hyl, hy2, -⟩ := write_ev x5 x6 wx
  obtain ⟨K, hK⟩ := hy
  obtain ⟨r0, r1, r2, r3, r4, s5, s6, ⟨K2, hK2⟩, hap⟩ := add_ev (a0 := a0) (a1 := a1) (a2 := a2) wa wx
  by_cases c1 : q = 0
  · have q1 : (q != 0) = false := by rw [c1]; rfl
    by_cases c2 : s5 = 0
    · have q2 : (s5 != 0) = false := by rw [c2]; rfl
      obtain ⟨hb, hr, hrw, rfl⟩ := hap c2
      obtain ⟨n, hn⟩ := Sizes.all a3 (fun x hx => wa.2.2 x hx)
      obtain ⟨s, hs, hsy⟩ := size_ev x5 x6 wx
      have hsl : s = y.length := hsy y q q' ⟨K, hK⟩
      have hnl := hn.le
      have hl := hb.n3
      obtain ⟨K3, hK3⟩ := used_ev hrw hr (Sizes.append hn (x := ⟨a0, a1, 0, 0, ⟨x5, x6⟩⟩) hs)
      obtain ⟨K4, hK4⟩ := used_ev wa hb hn
      have g1 := hK (max (max K K4) (max K2 K3)) (by omega)
      have g2 := hK2 (max (max K K4) (max K2 K3)) (by omega)
      have g3 := hK3 (max (max K K4) (max K2 K3)) (by omega)
      have g4 := hK4 (max (max K K4) (max K2 K3)) (by omega)
      exact QuotaSizes_c _ a0 a1 a2 aA aa a3 aB ab a4 xA xa x5 xB xb x6 _ _ _ _ _ _ _ y q q' w ha3 ea3 ha4 ea4 hx5 ex5 hx6 ex6 quotaExample_true g1 g2 q1 q2 _ _ _ _ _ _ g4 g3 ((i64_w _).trans (by rw [← hsl]; unfold wrap64; omega)) ((i64_w _).trans (by rw [List.length_append, List.length_singleton]; unfold wrap64; omega))
    · exact QuotaSizes_b (max K K2) a0 a1 a2 aA aa a3 aB ab a4 xA xa x5 xB xb x6 _ _ _ _ _ _ _ y q q' w ha3 ea3 ha4 ea4 hx5 ex5 hx6 ex6 quotaExample_true (hK _ (by omega)) (hK2 _ (by omega)) q1 (bne_iff_ne.2 c2)
  · exact QuotaSizes_a (max K K2) a0 a1 a2 aA aa a3 aB ab a4 xA xa x5 xB xb x6 _ _ _ _ _ _ _ y q q' w ha3 ea3 ha4 ea4 hx5 ex5 hx6 ex6 quotaExample_true (hK _ (by omega)) (hK2 _ (by omega)) (bne_iff_ne.2 c1)
end Go.Proofs.YtbolikomoenmaaaDoor.P
