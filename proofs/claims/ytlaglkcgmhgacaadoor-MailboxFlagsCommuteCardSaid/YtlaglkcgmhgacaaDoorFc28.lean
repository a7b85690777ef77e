/- A possible change of a valid mailbox: the valid mailbox that comes of it, and its numbers. -/
import Derived.Test.YtlaglkcgmhgacaaDoorFc26
import Derived.Test.YtlaglkcgmhgacaaDoorFc27
namespace Go.Proofs.YtlaglkcgmhgacaaDoor.P
open Go.RowKit Go.Proofs.YtlaglkcgmhgacaaDoorW.PrintWords Go.Proofs.YtlaglkcgmhgacaaDoorW.PrintLast Go.Proofs.YtlaglkcgmhgacaaDoorW.PrintMore
set_option linter.unusedVariables false
structure Next (a0 a1 a2 : Int) (l3 : List (S58)) (l4 : List (S61)) (r0 r1 r2 : Int) (r3 : List (S58)) (r4 : List (S61)) : Prop where
  ok : BoxOk r0 r1 r2 r3 r4
  wf : WFBox r3 r4
  u : r0 = a0 ∨ r0 = a0 + 1
  s : (r1 = a1 ∧ r0 = a0 ∧ r2 = a2 ∧ r3 = l3 ∧ r4 = l4) ∨ r1 = a1 + 1
  h : a2 ≤ r2
theorem do_next {a0 a1 a2 : Int} {l3 : List (S58)} {l4 : List (S61)} {c0 c1 c2 c3 c4 : Int} {l5 : List (S77)} {l6 : List Int} (hb : BoxOk a0 a1 a2 l3 l4) (hc : ChangeOk c0 c1 c2 c3 c4 l5 l6) (hp : PossibleAt a0 a1 l3 c0 c1) (hw : WFBox l3 l4) (hm : WFMsg l5 l6) {r0 r1 r2 : Int} {r3 : List (S58)} {r4 : List (S61)} (e : mailbox_Do.m a0 a1 a2 l3 l4 c0 c1 c2 c3 c4 l5 l6 = (r0, r1, r2, r3, r4)) : Next a0 a1 a2 l3 l4 r0 r1 r2 r3 r4 := by
  have hu0 := hb.u0
  have hu1 := hb.u1
  have hs0 := hb.s0
  have hs1 := hb.s1
  have hn3 := hb.n3
  have hn4 := hb.n4
  have w0 : wrap64 (a0 + 1) = a0 + 1 := wrap_succ (by omega) (by omega)
  have w1 : wrap64 (a1 + 1) = a1 + 1 := wrap_succ (by omega) (by omega)
  unfold mailbox_Do.m at e
  rw [w0, w1] at e
  by_cases k1 : c0 = 1
  · rw [if_pos k1] at e
    obtain ⟨rfl, rfl, rfl, rfl, rfl⟩ := by simpa only [Prod.mk.injEq] using e
    refine ⟨do_add hb hc hp k1, ⟨by rw [List.length_append, List.length_singleton]; omega, hw.2.1, fun x hx => ?_⟩, .inr rfl, .inr rfl, Int.le_refl _⟩
    rcases List.mem_append.1 hx with hx | hx
    · exact hw.2.2 x hx
    · rw [List.mem_singleton.1 hx]; exact hm
  · rw [if_neg k1] at e
    obtain ⟨n, x, hn, hx, hx0⟩ := place_at (hp.2.2 k1)
    have gd : l3.getD (placeFrom l3 c1 0).toNat z58 = x := by rw [hn, Int.toNat_natCast, List.getD_eq_getElem?_getD, hx]; rfl
    rw [gd, hn, Int.toNat_natCast] at e
    by_cases k2 : c0 = 2
    · rw [if_pos k2] at e
      split at e
      · obtain ⟨rfl, rfl, rfl, rfl, rfl⟩ := by simpa only [Prod.mk.injEq] using e
        exact ⟨hb, hw, .inl rfl, .inl ⟨rfl, rfl, rfl, rfl, rfl⟩, Int.le_refl _⟩
      · obtain ⟨rfl, rfl, rfl, rfl, rfl⟩ := by simpa only [Prod.mk.injEq] using e
        refine ⟨do_flag hb hc hp.1 hx, ⟨by rw [List.length_set]; exact hw.1, hw.2.1, fun y hy => ?_⟩, .inl rfl, .inr rfl, Int.le_refl _⟩
        rcases List.mem_or_eq_of_mem_set hy with hy | rfl
        · exact hw.2.2 y hy
        · exact hw.2.2 x (List.mem_of_getElem? hx)
    · rw [if_neg k2] at e
      have wf3 : ∀ r4 : List (S61), r4.length ≤ 400 → WFBox (l3.eraseIdx n) r4 := fun r4 h4 => ⟨by have := List.length_eraseIdx_le l3 n; omega, by omega, fun y hy => hw.2.2 y (List.mem_of_mem_eraseIdx hy)⟩
      by_cases h4 : 400 < (l4 ++ [(⟨c1, a1⟩ : S61)]).length
      · rw [if_pos h4, if_pos h4] at e
        rw [List.length_append, List.length_singleton] at h4
        cases l4 with
        | nil => simp at h4
        | cons g l4 =>
          have h0 : ((g :: l4) ++ [(⟨c1, a1⟩ : S61)]).getD 0 z61 = g := rfl
          have h1 : ((g :: l4) ++ [(⟨c1, a1⟩ : S61)]).drop 1 = l4 ++ [(⟨c1, a1⟩ : S61)] := rfl
          rw [h0, h1] at e
          obtain ⟨rfl, rfl, rfl, rfl, rfl⟩ := by simpa only [Prod.mk.injEq] using e
          rw [List.length_cons] at hn4 h4
          have h2 := do_erase (do_forget hb) hp.1 hx (by omega)
          rw [hx0] at h2
          have h3 := (hb.g 0 g rfl).2.2.1
          exact ⟨h2, wf3 _ (by rw [List.length_append, List.length_singleton]; omega), .inl rfl, .inr rfl, by omega⟩
      · rw [if_neg h4, if_neg h4] at e
        rw [List.length_append, List.length_singleton] at h4
        obtain ⟨rfl, rfl, rfl, rfl, rfl⟩ := by simpa only [Prod.mk.injEq] using e
        have h2 := do_erase hb hp.1 hx (by omega)
        rw [hx0] at h2
        exact ⟨h2, wf3 _ (by rw [List.length_append, List.length_singleton]; omega), .inl rfl, .inr rfl, Int.le_refl _⟩
end Go.Proofs.YtlaglkcgmhgacaaDoor.P
