/- The law that the view of a mailbox is the same as it: the walk for every argument. -/
import Derived.Test.YtjmnaipoccpbmaaDoorVs32
import Derived.Test.YtjmnaipoccpbmaaDoorVs33
import Derived.Test.YtjmnaipoccpbmaaDoorVs38
namespace Go.Proofs.YtjmnaipoccpbmaaDoor.P
open Go.RowKit Go.Proofs.YtjmnaipoccpbmaaDoorW.PrintWords Go.Proofs.YtjmnaipoccpbmaaDoorW.PrintLast Go.Proofs.YtjmnaipoccpbmaaDoorW.PrintMore
set_option linter.unusedVariables false
theorem addv_is (a0 a1 a2 : Int) (l3 : List (S78)) (l4 : List (S73)) (l5 : List (S99)) (l6 : List Int) : mailbox_Do.m a0 a1 a2 l3 l4 1 0 0 0 0 l5 l6 = (wrap64 (a0 + 1), wrap64 (a1 + 1), a2, l3 ++ [⟨a0, a1, 0, 0, ⟨l5, l6⟩⟩], l4) := by
  unfold mailbox_Do.m
  rw [if_pos rfl]
/-- VIEWSSHOWTHEIRMAILBOX ANSWERS YES, whatever its arguments hold. -/
theorem ViewsShowTheirMailbox_walk (a0 a1 a2 : Int) (aA : Option Addr) (aa : Nat) (a3 : List (S78)) (aB : Option Addr) (ab : Nat) (a4 : List (S73)) (xA : Option Addr) (xa : Nat) (x5 : List (S99)) (xB : Option Addr) (xb : Nat) (x6 : List Int) (w : World) (wa : WFBox a3 a4) (ha3 : Kd.C k78 w aA a3.length a3) (ea3 : a3.length ≤ aa) (ha4 : Kd.C k73 w aB a4.length a4) (ea4 : a4.length ≤ ab) (wx : WFMsg x5 x6) (hx5 : Kd.C k99 w xA x5.length x5) (ex5 : x5.length ≤ xa) (hx6 : Kd.C (Kd.int .u8) w xB x6.length x6) (ex6 : x6.length ≤ xb) :
    Calls Tryd.prog 3 #[.agg #[.int .i64 a0, .int .i64 a1, .int .i64 a2, .slice aA a3.length aa, .slice aB a4.length ab], .agg #[.slice xA x5.length xa, .slice xB x6.length xb]] w fun e w' => e = .returned (.bool true) ∧ Below w.heap.size w w' := by
  have hex : ∀ w, Calls Tryd.prog 6 #[] w fun e w' => e = .returned (.bool true) ∧ Below w.heap.size w w' := fun w => posthouselaw8_viewsExample.calls 0 true w rfl
  obtain ⟨v0, vs, q, q', ⟨K1, hK1⟩, hz, hnz⟩ := of_ev (a0 := a0) (a1 := a1) (a2 := a2) wa
  by_cases hq : q = 0
  · obtain ⟨hb, e0, es⟩ := hz hq
    have hs0 := hb.s0
    have hs1 := hb.s1
    have hok := vmap_ok hb
    have hv : views_Validate.f v0 vs = some (0, 0) := by rw [es]; exact vval_ok hok (by omega) (by omega)
    have hl : vs.length ≤ 1000 := by rw [es]; exact Nat.le_trans hok.n (by omega)
    obtain ⟨o, f, f', ⟨K2, hK2⟩, hs⟩ := same_ev (a0 := a0) (a1 := a1) (a2 := a2) hv hl wa
    obtain ⟨hf, -, ho⟩ := hs hb
    have ho2 : o = true := by rw [ho, es]; exact decide_eq_true rfl
    rcases apply_ev (a0 := a0) (a1 := a1) (a2 := a2) (c0 := 1) (c1 := 0) (c2 := 0) (c3 := 0) (c4 := 0) wa wx with ⟨q3, r, hq3, K3, hK3⟩ | ⟨-, hc, hp, hm⟩
    · have g1 := hK1 (max K1 (max K2 K3)) (by omega)
      have g2 := hK2 (max K1 (max K2 K3)) (by omega)
      have g3 := hK3 (max K1 (max K2 K3)) (by omega)
      exact ViewsShow_b _ a0 a1 a2 aA aa a3 aB ab a4 xA xa x5 xB xb x6 v0 vs q q' o f f' _ _ _ _ _ _ _ w ha3 ea3 ha4 ea4 hx5 ex5 hx6 ex6 hex g1 g2 g3 (by rw [hq]; rfl) (bne_iff_ne.2 hq3) (by rw [hf]; rfl) ho2
    · have nx := do_next hb hc hp wa wx (addv_is a0 a1 a2 a3 a4 x5 x6)
      obtain ⟨K3, hK3⟩ := hm _ (addv_is a0 a1 a2 a3 a4 x5 x6)
      obtain ⟨o4, f4, f4', ⟨K4, hK4⟩, hs4⟩ := same_ev (a0 := wrap64 (a0 + 1)) (a1 := wrap64 (a1 + 1)) (a2 := a2) hv hl nx.wf
      obtain ⟨hf4, -, ho4⟩ := hs4 nx.ok
      have ho5 : o4 = false := by
        rw [ho4, es]
        refine decide_eq_false (fun h => ?_)
        have := congrArg List.length h
        simp [vmap] at this
      have g1 := hK1 (max K1 (max K2 (max K3 K4))) (by omega)
      have g2 := hK2 (max K1 (max K2 (max K3 K4))) (by omega)
      have g3 := hK3 (max K1 (max K2 (max K3 K4))) (by omega)
      have g4 := hK4 (max K1 (max K2 (max K3 K4))) (by omega)
      rw [hf4, ho5] at g4
      exact ViewsShow_c _ a0 a1 a2 aA aa a3 aB ab a4 xA xa x5 xB xb x6 v0 vs q q' o f f' _ _ _ _ _ _ _ w ha3 ea3 ha4 ea4 hx5 ex5 hx6 ex6 hex g1 g2 g3 (by rw [hq]; rfl) rfl (by rw [hf]; rfl) ho2 _ g4
  · obtain ⟨e0, es⟩ := hnz hq
    have hv : views_Validate.f v0 vs = some (0, 0) := by rw [e0, es]; rfl
    obtain ⟨o, f, f', ⟨K2, hK2⟩, -⟩ := same_ev (a0 := a0) (a1 := a1) (a2 := a2) hv (by rw [es]; simp) wa
    have g1 := hK1 (max K1 K2 + 1) (by omega)
    have g2 := hK2 (max K1 K2 + 1) (by omega)
    exact ViewsShow_a _ a0 a1 a2 aA aa a3 aB ab a4 xA xa x5 xB xb x6 v0 vs q q' o f f' w ha3 ea3 ha4 ea4 hx5 ex5 hx6 ex6 hex g1 g2 rfl (bne_iff_ne.2 hq) e0 es
end Go.Proofs.YtjmnaipoccpbmaaDoor.P
