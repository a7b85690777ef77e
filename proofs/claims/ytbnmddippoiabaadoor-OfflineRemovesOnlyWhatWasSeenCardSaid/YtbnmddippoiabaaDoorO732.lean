/- The law that what has been added or changed since is not removed: the walk for every argument. -/
import Derived.Test.YtbnmddippoiabaaDoorO729
import Derived.Test.YtbnmddippoiabaaDoorO730
import Derived.Test.YtbnmddippoiabaaDoorO731
namespace Go.Proofs.YtbnmddippoiabaaDoor.P
open Go.RowKit Go.Proofs.YtbnmddippoiabaaDoorW.PrintWords Go.Proofs.YtbnmddippoiabaaDoorW.PrintLast Go.Proofs.YtbnmddippoiabaaDoorW.PrintMore
set_option linter.unusedVariables false
theorem place8_ev (a0 a1 a2 u : Int) (l4 : List (S75)) (l : List (S55)) (hl : l.length ≤ 1000) : ∀ (t : List (S55)) (j : Nat), l.drop j = t → (∃ x ∈ t, x.f0 = u) → ∃ r : Int, Ev (fun k => posthouseref8_Place.l0 k u j a0 a1 a2 l l4) r ∧ 0 ≤ r
  | [], _, _, ⟨x, hx, _⟩ => by cases hx
  | y :: t, j, hd, ⟨x, hx, hu⟩ => by
    have hy : l[j]? = some y := by rw [← List.head?_drop, hd]; rfl
    have hj := (List.getElem?_eq_some_iff.1 hy).1
    have hd' : l.drop (j + 1) = t := by rw [← List.tail_drop, hd]; rfl
    have hw : wrap64 ((j : Int) + 1) = ((j + 1 : Nat) : Int) := by unfold wrap64; omega
    by_cases e : y.f0 = u
    · exact ⟨j, Ev.one (fun k => by simp only [posthouseref8_Place.l0]; rw [if_pos (by omega), if_pos (by omega), rd_stored hy, if_pos e]), by omega⟩
    · have h2 : ∃ x ∈ t, x.f0 = u := by
        rcases List.mem_cons.1 hx with h | h
        · rw [h] at hu; exact absurd hu e
        · exact ⟨x, h, hu⟩
      obtain ⟨r, hr, h0⟩ := place8_ev a0 a1 a2 u l4 l hl t (j + 1) hd' h2
      exact ⟨r, Ev.step (fun k => by simp only [posthouseref8_Place.l0]; rw [if_pos (by omega), if_pos (by omega), rd_stored hy, if_neg e, hw]) hr, h0⟩
/-- As many rounds as all of a list want. -/
theorem rounds_all {α β : Type} {g : α → Nat → Option β} {p : α → β → Prop} (hm : ∀ x k, LeO (g x k) (g x (k + 1))) : ∀ l : List α, (∀ x ∈ l, ∃ r, Ev (g x) r ∧ p x r) → ∃ K, ∀ k, K ≤ k → ∀ x ∈ l, ∃ r, g x k = some r ∧ p x r
  | [], _ => ⟨0, fun _ _ _ h => by cases h⟩
  | x :: l, h => by
    obtain ⟨r, ⟨K, hK⟩, hp⟩ := h x List.mem_cons_self
    obtain ⟨K', hK'⟩ := rounds_all hm l (fun y hy => h y (List.mem_cons_of_mem _ hy))
    refine ⟨max K K', fun k hk y hy => ?_⟩
    rcases List.mem_cons.1 hy with e | hy
    · rw [e]; exact ⟨r, hK k (by omega), hp⟩
    · exact hK' k (by omega) y hy
/-- OFFLINEREMOVESONLYWHATWASSEEN ANSWERS YES, whatever its arguments hold. -/
theorem OfflineRemovesOnlyWhatWasSeen_walk (a0 a1 a2 : Int) (aA : Option Addr) (aa : Nat) (a3 : List (S55)) (aB : Option Addr) (ab : Nat) (a4 : List (S75)) (base : Int) (qA : Option Addr) (qa : Nat) (ql : List (S43)) (w : World) (wa : WFBox a3 a4) (ha3 : Kd.C k55 w aA a3.length a3) (ea3 : a3.length ≤ aa) (ha4 : Kd.C k75 w aB a4.length a4) (ea4 : a4.length ≤ ab) (wb : (Lit.int .i64 base).wf = true) (hql : Kd.C k43 w qA ql.length ql) (eql : ql.length ≤ qa) (hqw : ∀ q ∈ ql, (Lit.int .i64 q.f0).wf = true) :
    Calls Tryd.prog 5 #[.agg #[.int .i64 a0, .int .i64 a1, .int .i64 a2, .slice aA a3.length aa, .slice aB a4.length ab], .int .i64 base, .slice qA ql.length qa] w fun e w' => e = .returned (.bool true) ∧ Below w.heap.size w w' := by
  have hex : ∀ w, Calls Tryd.prog 12 #[] w fun e w' => e = .returned (.bool true) ∧ Below w.heap.size w w' := fun w => posthouselaw8_offlineExample.calls 0 true w rfl
  obtain ⟨r0, r1, r2, r3, r4, sl, s5, s6, ⟨K, hK⟩, hz, hwr⟩ := merge_ev (a0 := a0) (a1 := a1) (a2 := a2) wa base ql
  by_cases h0 : s5 = 0
  · obtain ⟨hb, hb1, hb2, hn, hq, hm, -⟩ := hz h0
    obtain ⟨hk1, hk2, hk3, -⟩ := merge_keeps base ql a0 a1 a2 a3 a4 [] r0 r1 r2 r3 r4 hq hb wa hm
    obtain ⟨v, ⟨K1, hK1⟩, hv1, hv2⟩ := box_ev (a0 := r0) (a1 := r1) (a2 := r2) hk2
    have v1 := hv2.2 hk1
    have hs0 := hb.s0
    have hr3 := hk1.n3
    have hold : ∀ x ∈ a3.filter (fun x => decide (base ≤ x.f1)), ∃ r : Int, Ev (fun k => posthouseref8_Place.f k r0 r1 r2 r3 r4 x.f0) r ∧ 0 ≤ r := fun x hx => by
      obtain ⟨hx1, hx2⟩ := List.mem_filter.1 hx
      obtain ⟨i, hi⟩ := List.mem_iff_getElem?.1 hx1
      have he := hb.e i x hi
      obtain ⟨j, y, hj, hy⟩ := merge_safe base ql a0 a1 a2 a3 a4 [] hq hb wa hb2 (fun u => by show (0 : Int) < a1; omega) x.f0 ⟨i, x, hi, rfl, of_decide_eq_true hx2, by show x.f1 ≠ 0; have := he.2.2.1; omega⟩
      rw [hm] at hj
      exact place8_ev r0 r1 r2 x.f0 r4 r3 (by omega) r3 0 rfl ⟨y, List.mem_of_getElem? hj, hy⟩
    obtain ⟨K2, hK2⟩ := rounds_all (g := fun (x : S55) k => posthouseref8_Place.f k r0 r1 r2 r3 r4 x.f0) (p := fun _ r => 0 ≤ r) (fun x k => posthouseref8_Place.mono _ _ _ _ _ _ _) _ hold
    have g1 := hK (max K (max K1 K2)) (by omega)
    have g2 := hK1 (max K (max K1 K2)) (by omega)
    rw [show v = (0, v.2) from Prod.ext v1 rfl] at g2
    exact OffRemoves_b _ a0 a1 a2 aA aa a3 aB ab a4 base qA qa ql r0 r1 r2 r3 r4 s5 s6 sl w ha3 ea3 ha4 ea4 hql eql hqw (fun h => box_wf wa h) hex g1 (by rw [h0]; rfl) _ g2 hk3 (fun i x hi hx => hK2 (max K (max K1 K2)) (by omega) x (List.mem_filter.2 ⟨List.mem_of_getElem? hi, decide_eq_true hx⟩))
  · exact OffRemoves_a _ a0 a1 a2 aA aa a3 aB ab a4 base qA qa ql r0 r1 r2 r3 r4 s5 s6 sl w ha3 ea3 ha4 ea4 hql eql hqw (fun h => box_wf wa h) hex (hK K (Nat.le_refl _)) (bne_iff_ne.2 h0)
end Go.Proofs.YtbnmddippoiabaaDoor.P
