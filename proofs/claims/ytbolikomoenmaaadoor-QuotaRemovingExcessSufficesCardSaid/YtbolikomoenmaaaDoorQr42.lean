/- Several texts in one, each in its own section. The last: How an argument that is a limit is opened. -/
import Derived.Test.YtbolikomoenmaaaDoorQr35
import Derived.Test.YtbolikomoenmaaaDoorQr40
import Derived.Test.YtbolikomoenmaaaDoorQr41
import Derived.Test.YtbolikomoenmaaaDoorQr11
/- The law that after the removal of what Excess returns nothing is in excess: the walk for every argument. -/
section
namespace Go.Proofs.YtbolikomoenmaaaDoor.P
open Go.RowKit Go.Proofs.YtbolikomoenmaaaDoorW.PrintWords Go.Proofs.YtbolikomoenmaaaDoorW.PrintLast Go.Proofs.YtbolikomoenmaaaDoorW.PrintMore
set_option linter.unusedVariables false
theorem excessFrom_ev (m0 m1 : Int) (h0 : 0 ≤ m0) (h1 : 0 ≤ m1) : ∀ (l : List (S68)) (n : Nat) (out : List Int), Sizes l n → l.length ≤ 200 → out.length + l.length ≤ 1000 → ∃ j, j ≤ l.length ∧ Ev (fun k => excessFrom k m0 m1 l n l.length out) (out ++ (l.take j).map (fun x => x.f0)) ∧ ∃ n' : Nat, Sizes (l.drop j) n' ∧ (n' : Int) ≤ m0 ∧ ((l.drop j).length : Int) ≤ m1
  | [], n, out, hs, _, _ => ⟨0, Nat.le_refl _, by simpa [excessFrom] using Ev.now out, 0, rfl, by omega, by simpa using h1⟩
  | x :: l, n, out, hs, hl, ho => by
    have hs0 := hs
    have hle := hs.le
    obtain ⟨s, m, hx, hm, rfl⟩ := hs
    by_cases hc : ((s + m : Nat) : Int) ≤ m0 ∧ ((x :: l).length : Int) ≤ m1
    · exact ⟨0, Nat.zero_le _, Ev.congr (fun k => by simp only [excessFrom]; rw [if_pos hc]) (by simpa using Ev.now out), s + m, hs0, hc.1, hc.2⟩
    · rw [List.length_cons] at hl ho hle
      obtain ⟨j, hj, he, n', hn⟩ := excessFrom_ev m0 m1 h0 h1 l m (out ++ [x.f0]) hm (by omega) (by rw [List.length_append, List.length_singleton]; omega)
      refine ⟨j + 1, by rw [List.length_cons]; omega, ?_, n', hn⟩
      have e : out ++ ((x :: l).take (j + 1)).map (fun x => x.f0) = out ++ [x.f0] ++ (l.take j).map (fun x => x.f0) := by simp
      rw [e]
      refine Ev.congr (fun k => by simp only [excessFrom]; rw [if_neg hc, if_pos (by omega)]) (Ev.bind (g := fun k => quota_Size.f k x.f4.f0 x.f4.f1) hx.1 (f := fun k t => excessFrom k m0 m1 l (wrap64 (((s + m : Nat) : Int) - t)) (wrap64 (((x :: l).length : Int) - 1)) (out ++ [x.f0])) (Ev.congr (fun k => ?_) he))
      rw [show wrap64 (((s + m : Nat) : Int) - (s : Int)) = (m : Int) from by unfold wrap64; omega, show wrap64 (((x :: l).length : Int) - 1) = (l.length : Int) from by rw [List.length_cons]; unfold wrap64; omega]
section
variable {a0 a1 a2 : Int} {l3 : List (S68)} {l4 : List (S72)}
theorem excess_head {m0 m1 : Int} (hw : WFBox l3 l4) (hb : BoxOk a0 a1 a2 l3 l4) (hl : quota_limit.f m0 m1 = some (0, 0)) {n : Nat} (hs : Sizes l3 n) {r : List Int} (hr : Ev (fun k => excessFrom k m0 m1 l3 n l3.length []) r) : Ev (fun k => quota_Excess.f k a0 a1 a2 l3 l4 m0 m1) (r, 0, 0) := by
  obtain ⟨v, hv, h1, h2⟩ := box_ev (a0 := a0) (a1 := a1) (a2 := a2) hw
  have e1 := h2.2 hb
  have e2 := h1 e1
  exact Ev.bind hv (f := fun k t => _) (Ev.congr (fun k => by rw [if_pos ⟨e1, e2⟩, hl]; simp only [Option.bind_some]; rw [if_pos (by simp)]) (Ev.bind (sum_ev (a0 := a0) (a1 := a1) (a2 := a2) (l4 := l4) hb.n3 hs) (f := fun k s => (excessFrom k m0 m1 l3 s.1 s.2 []).bind fun r => some (r, (0 : Int), (0 : Int))) (Ev.bind hr (f := fun k r => some (r, 0, 0)) (Ev.now _))))
/-- What Excess answers. -/
theorem excess_ev (m0 m1 : Int) (hw : WFBox l3 l4) : ∃ (out : List Int) (q q' : Int), Ev (fun k => quota_Excess.f k a0 a1 a2 l3 l4 m0 m1) (out, q, q') ∧ (q ≠ 0 → out = []) ∧
    (q = 0 → BoxOk a0 a1 a2 l3 l4 ∧ quota_limit.f m0 m1 = some (0, 0) ∧ ∃ j, j ≤ l3.length ∧ out = (l3.take j).map (fun x => x.f0) ∧ ∃ n' : Nat, Sizes (l3.drop j) n' ∧ (n' : Int) ≤ m0 ∧ ((l3.drop j).length : Int) ≤ m1) := by
  obtain ⟨v, hv, h1, h2⟩ := box_ev (a0 := a0) (a1 := a1) (a2 := a2) hw
  by_cases e1 : v.1 = 0
  · have hb := h2.1 e1
    rcases limit_ev m0 m1 with ⟨lo, hl⟩ | hl
    · obtain ⟨n, hn⟩ := Sizes.all l3 (fun x hx => hw.2.2 x hx)
      obtain ⟨j, hj, he, hn'⟩ := excessFrom_ev m0 m1 lo.1 lo.2.1 l3 n [] hn hb.n3 (by have := hb.n3; simp; omega)
      rw [List.nil_append] at he
      exact ⟨_, 0, 0, excess_head hw hb hl hn he, fun h => absurd rfl h, fun _ => ⟨hb, hl, j, hj, rfl, hn'⟩⟩
    · exact ⟨[], 3, -2, Ev.bind hv (f := fun k t => _) (Ev.congr (fun k => by rw [if_pos ⟨e1, h1 e1⟩, hl]; simp only [Option.bind_some]; rw [if_neg (by simp)]) (Ev.now _)), fun _ => rfl, fun h => by cases h⟩
  · exact ⟨[], v.1, v.2, Ev.bind hv (f := fun k t => _) (Ev.congr (fun k => by rw [if_neg (fun h => e1 h.1)]) (Ev.now _)), fun _ => rfl, fun h => absurd h e1⟩
/-- Nothing is in excess where the limit is kept. -/
theorem excess_none {m0 m1 : Int} (hw : WFBox l3 l4) (hb : BoxOk a0 a1 a2 l3 l4) (hl : quota_limit.f m0 m1 = some (0, 0)) {n : Nat} (hs : Sizes l3 n) (h0 : (n : Int) ≤ m0) (h1 : (l3.length : Int) ≤ m1) : Ev (fun k => quota_Excess.f k a0 a1 a2 l3 l4 m0 m1) ([], 0, 0) := by
  refine excess_head hw hb hl hs ?_
  cases l3 with
  | nil => exact Ev.now []
  | cons x l => exact Ev.congr (fun k => by simp only [excessFrom]; rw [if_pos ⟨h0, h1⟩]) (Ev.now [])
/-- The removal of the first message. -/
theorem remove_one {x : S68} {t : List (S68)} (hw : WFBox (x :: t) l4) (hb : BoxOk a0 a1 a2 (x :: t) l4) (h1 : a1 < 1000000) :
    ∃ (r0 r1 r2 : Int) (r4 : List (S72)), Ev (fun k => mailbox_Apply.f k a0 a1 a2 (x :: t) l4 3 x.f0 0 0 0 [] []) (r0, r1, r2, t, r4, 0, 0) ∧ BoxOk r0 r1 r2 t r4 ∧ WFBox t r4 ∧ r1 ≤ a1 + 1 := by
  have hpl : placeFrom (x :: t) x.f0 0 = 0 := by unfold placeFrom; rw [if_pos rfl]
  have hc : ChangeOk 3 x.f0 0 0 0 [] [] := ⟨by omega, by omega, by omega, by omega, by omega, by omega, by omega, (fun h => by cases h), ⟨by simp, by simp⟩⟩
  have hp : PossibleAt a0 a1 (x :: t) 3 x.f0 := ⟨by omega, (fun h => by cases h), fun _ => by rw [hpl]; exact Int.le_refl _⟩
  have hm : WFMsg [] [] := ⟨by simp, by simp, fun y hy => by cases hy⟩
  obtain ⟨r0, r1, r2, r3, r4, e⟩ : ∃ r0 r1 r2 r3 r4, mailbox_Do.m a0 a1 a2 (x :: t) l4 3 x.f0 0 0 0 [] [] = (r0, r1, r2, r3, r4) := ⟨_, _, _, _, _, rfl⟩
  have nx := do_next hb hc hp hw hm e
  have e3 : r3 = t := by
    have h := congrArg (fun z => z.2.2.2.1) e
    unfold mailbox_Do.m at h
    rw [if_neg (by decide), if_neg (by decide), hpl] at h
    split at h <;> exact h.symm
  subst e3
  obtain ⟨v1, e1, z1, b1⟩ := box_ev (a0 := a0) (a1 := a1) (a2 := a2) hw
  have h2 := b1.2 hb
  have e2 : ∀ k, mailbox_change.f k 3 x.f0 0 0 0 [] [] = some (0, 0) := fun k => by
    unfold mailbox_change.f
    rw [if_neg (by decide), if_neg (by simp), if_neg (by simp [wrap64]), if_neg (by simp), if_neg (by decide), if_neg (by decide)]
  have hs : sized (x :: r3) l4 [] [] := ⟨by have := hb.n3; omega, by have := hb.n4; omega, by simp, by simp, fun y hy => by
    obtain ⟨i, hi⟩ := List.mem_iff_getElem?.1 hy
    have h9 := msgOk_small (hw.2.2 y hy) (hb.e i y hi).2.2.2.2.2.2.2.2
    omega⟩
  have e4 : mailbox_possible.f a0 a1 a2 (x :: r3) l4 3 x.f0 0 0 0 [] [] = some (0, 0) := by
    unfold mailbox_possible.f
    rw [if_neg (by omega), if_neg (by omega), if_neg (by rw [hpl]; omega)]
  refine ⟨r0, r1, r2, r4, ?_, nx.ok, nx.wf, ?_⟩
  · have e' : ((mailbox_Do.m a0 a1 a2 (x :: r3) l4 3 x.f0 0 0 0 [] []).1, (mailbox_Do.m a0 a1 a2 (x :: r3) l4 3 x.f0 0 0 0 [] []).2.1, (mailbox_Do.m a0 a1 a2 (x :: r3) l4 3 x.f0 0 0 0 [] []).2.2.1, (mailbox_Do.m a0 a1 a2 (x :: r3) l4 3 x.f0 0 0 0 [] []).2.2.2.1, (mailbox_Do.m a0 a1 a2 (x :: r3) l4 3 x.f0 0 0 0 [] []).2.2.2.2, (0 : Int), (0 : Int)) = (r0, r1, r2, r3, r4, 0, 0) := by rw [e]
    rw [← e']
    exact Ev.congr (fun k => by unfold mailbox_Apply.f; rfl) (Ev.bind (g := fun k => mailbox_Validate.f k a0 a1 a2 (x :: r3) l4) e1 (f := fun k b1 => _) (Ev.congr (fun k => by rw [if_pos ⟨h2, z1 h2⟩, e2 k]; simp only [Option.bind_some]; rw [if_pos (by simp), e4]; simp only [Option.bind_some]; rw [if_pos (by simp), if_pos hs]) (Ev.now _)))
  · rcases nx.s with ⟨h, -⟩ | h <;> omega
end
theorem remove_ev : ∀ (j : Nat) (a0 a1 a2 : Int) (l3 : List (S68)) (l4 : List (S72)), WFBox l3 l4 → BoxOk a0 a1 a2 l3 l4 → j ≤ l3.length → a1 + j ≤ 999999 → ∃ (n0 n1 n2 : Int) (n4 : List (S72)), Ev (fun k => removeAll k ((l3.take j).map (fun x => x.f0)) a0 a1 a2 l3 l4) (n0, n1, n2, l3.drop j, n4) ∧ BoxOk n0 n1 n2 (l3.drop j) n4 ∧ WFBox (l3.drop j) n4
  | 0, a0, a1, a2, l3, l4, hw, hb, _, _ => ⟨a0, a1, a2, l4, Ev.now _, hb, hw⟩
  | j + 1, a0, a1, a2, [], l4, hw, hb, hj, _ => by simp at hj
  | j + 1, a0, a1, a2, x :: t, l4, hw, hb, hj, ha => by
    obtain ⟨r0, r1, r2, r4, he, hrb, hrw, hr1⟩ := remove_one hw hb (by omega)
    rw [List.length_cons] at hj
    obtain ⟨n0, n1, n2, n4, hn, hnb, hnw⟩ := remove_ev j r0 r1 r2 t r4 hrw hrb (by omega) (by omega)
    refine ⟨n0, n1, n2, n4, Ev.congr (f := fun k => (mailbox_Apply.f k a0 a1 a2 (x :: t) l4 3 x.f0 0 0 0 [] []).bind fun r => if r.2.2.2.2.2.1 = 0 then removeAll k ((t.take j).map (fun x => x.f0)) r.1 r.2.1 r.2.2.1 r.2.2.2.1 r.2.2.2.2.1 else none) (fun k => rfl) (Ev.bind he (Ev.congr (fun k => ?_) hn)), hnb, hnw⟩
    rw [if_pos rfl]
/-- QUOTAREMOVINGEXCESSSUFFICES ANSWERS YES, whatever its arguments hold. -/
theorem QuotaRemovingExcessSuffices_walk (a0 a1 a2 : Int) (aA : Option Addr) (aa : Nat) (a3 : List (S68)) (aB : Option Addr) (ab : Nat) (a4 : List (S72)) (m0 m1 : Int) (w : World) (wa : WFBox a3 a4) (ha3 : Kd.C k68 w aA a3.length a3) (ea3 : a3.length ≤ aa) (ha4 : Kd.C k72 w aB a4.length a4) (ea4 : a4.length ≤ ab) :
    Calls Tryd.prog 4 #[.agg #[.int .i64 a0, .int .i64 a1, .int .i64 a2, .slice aA a3.length aa, .slice aB a4.length ab], .agg #[.int .i64 m0, .int .i64 m1]] w fun e w' => e = .returned (.bool true) ∧ Below w.heap.size w w' := by
  obtain ⟨out, q, q', ⟨K, hK⟩, h0, h1⟩ := excess_ev (a0 := a0) (a1 := a1) (a2 := a2) m0 m1 wa
  by_cases c1 : q = 0
  · obtain ⟨hb, hl, j, hj, rfl, n', hn', hm0, hm1⟩ := h1 c1
    have q1 : (q != 0) = false := by rw [c1]; rfl
    by_cases c2 : 900000 < a1
    · exact Removing_b K a0 a1 a2 aA aa a3 aB ab a4 m0 m1 _ q q' w ha3 ea3 ha4 ea4 quotaExample_true (hK K (Nat.le_refl _)) q1 (by rw [c1]; rfl) (decide_eq_true c2)
    · have hn3 := hb.n3
      obtain ⟨n0, n1, n2, n4, ⟨K2, hK2⟩, hnb, hnw⟩ := remove_ev j a0 a1 a2 a3 a4 wa hb hj (by omega)
      obtain ⟨K3, hK3⟩ := excess_none hnw hnb hl hn' hm0 hm1
      exact Removing_c (max K (max K2 K3)) a0 a1 a2 aA aa a3 aB ab a4 m0 m1 _ q q' w ha3 ea3 ha4 ea4 quotaExample_true (hK _ (by omega)) n0 n1 n2 _ n4 0 q1 (decide_eq_false c2) (hK2 _ (by omega)) (hK3 _ (by omega))
  · exact Removing_a K a0 a1 a2 aA aa a3 aB ab a4 m0 m1 _ q q' w ha3 ea3 ha4 ea4 quotaExample_true (hK K (Nat.le_refl _)) (bne_iff_ne.2 c1) (h0 c1)
end Go.Proofs.YtbolikomoenmaaaDoor.P
end
/- How an argument that is a limit is opened. -/
section
namespace Go.Proofs.YtbolikomoenmaaaDoor.P
open Go.RowKit Go.Proofs.YtbolikomoenmaaaDoorW.PrintWords Go.Proofs.YtbolikomoenmaaaDoorW.PrintLast Go.Proofs.YtbolikomoenmaaaDoorW.PrintMore Go.Proofs.YtbolikomoenmaaaDoor.OpenK
set_option linter.unusedVariables false
set_option maxRecDepth 100000
theorem opLimit : Opens Tryd.prog 27 (Kd.pair (Kd.int .i64) (Kd.int .i64)) (fun _ => True) :=
  opens_imp (opens_struct Tryd.underlying27 (by kernel_rfl) (opensF_cons opInt rfl (opensF_one opInt rfl))) (fun _ _ => trivial)
theorem arg_limit {H : Type} {enc : TypeId × Value → H} {W : World} {base : Nat} {v : Value} {d : DataW H} {ps : List MemPlace} (hv : Value.okWide Tryd.prog W .any base 27 v) (hs : Small Tryd.prog 27 d) (h : DataW.Trod enc Tryd.prog W 0 (fun _ => true) true 27 v d ps) :
    ∃ m0 m1 : Int, v = .agg #[.int .i64 m0, .int .i64 m1] := by
  obtain ⟨cs, rfl, _⟩ := WideShapes.okWide_struct Tryd.underlying27 hv
  obtain ⟨fuel, hf⟩ := h
  obtain ⟨b, hb, wf⟩ := opLimit.op hf hs
  obtain ⟨c1, c2, hcs, rfl, rfl⟩ := hb
  obtain rfl : cs = #[.int .i64 b.1, .int .i64 b.2] := Array.toList_inj.1 hcs
  exact ⟨b.1, b.2, rfl⟩
end Go.Proofs.YtbolikomoenmaaaDoor.P
end
