/- The law that one change tells of one message: the walk for every argument. -/
import Derived.Test.YtjmnaipoccpbmaaDoorRt29
import Derived.Test.YtjmnaipoccpbmaaDoorRt34
namespace Go.Proofs.YtjmnaipoccpbmaaDoor.P
open Go.RowKit Go.Proofs.YtjmnaipoccpbmaaDoorW.PrintWords Go.Proofs.YtjmnaipoccpbmaaDoorW.PrintLast Go.Proofs.YtjmnaipoccpbmaaDoorW.PrintMore
set_option linter.unusedVariables false
theorem chg_old {s : Int} {l : List (S78)} (h : ∀ x ∈ l, x.f1 < s) : chg s l = [] := by
  unfold chg
  rw [List.filter_eq_nil_iff.2 (fun x hx => by have := h x hx; simp; omega)]
  rfl
theorem van_old {s : Int} {l : List (S73)} (h : ∀ x ∈ l, x.f1 < s) : van s l = [] := by
  unfold van
  rw [List.filter_eq_nil_iff.2 (fun x hx => by have := h x hx; simp; omega)]
  rfl
theorem chg_append (s : Int) (l m : List (S78)) : chg s (l ++ m) = chg s l ++ chg s m := by unfold chg; rw [List.filter_append, List.map_append]
theorem van_append (s : Int) (l m : List (S73)) : van s (l ++ m) = van s l ++ van s m := by unfold van; rw [List.filter_append, List.map_append]
theorem chg_one {s : Int} {y : S78} (h : y.f1 = s) : (chg s [y]).length = 1 := by rw [chg_cons, if_pos (by omega)]; rfl
theorem van_one {s : Int} {y : S73} (h : y.f1 = s) : (van s [y]).length = 1 := by rw [van_cons, if_pos (by omega)]; rfl
theorem chg_set {s : Int} {l : List (S78)} (h : ∀ x ∈ l, x.f1 < s) {n : Nat} (hn : n < l.length) {y : S78} (hy : y.f1 = s) : (chg s (l.set n y)).length = 1 := by
  rw [List.set_eq_take_append_cons_drop, if_pos hn, show l.take n ++ y :: l.drop (n + 1) = l.take n ++ ([y] ++ l.drop (n + 1)) from rfl, chg_append, chg_append, chg_old (fun x hx => h x (List.mem_of_mem_take hx)), chg_old (fun x hx => h x (List.mem_of_mem_drop hx)), List.nil_append, List.append_nil]
  exact chg_one hy
theorem do_tells {a0 a1 a2 : Int} {l3 : List (S78)} {l4 : List (S73)} {c0 c1 c2 c3 c4 : Int} {l5 : List (S99)} {l6 : List Int} (hb : BoxOk a0 a1 a2 l3 l4) (hc : ChangeOk c0 c1 c2 c3 c4 l5 l6) (hp : PossibleAt a0 a1 l3 c0 c1) {r0 r1 r2 : Int} {r3 : List (S78)} {r4 : List (S73)} (e : mailbox_Do.m a0 a1 a2 l3 l4 c0 c1 c2 c3 c4 l5 l6 = (r0, r1, r2, r3, r4)) :
    r2 < a1 ∧ ((r1 = a1 ∧ chg a1 r3 = [] ∧ van a1 r4 = []) ∨ (r1 = a1 + 1 ∧ c0 = 3 ∧ chg a1 r3 = [] ∧ (van a1 r4).length = 1) ∨ (r1 = a1 + 1 ∧ c0 ≠ 3 ∧ (chg a1 r3).length = 1 ∧ van a1 r4 = [])) := by
  have hu0 := hb.u0
  have hu1 := hb.u1
  have hs0 := hb.s0
  have hs1 := hb.s1
  have hh1 := hb.h1
  have o3 : ∀ x ∈ l3, x.f1 < a1 := fun x hx => by
    obtain ⟨i, hi⟩ := List.mem_iff_getElem?.1 hx
    have := (hb.e i x hi).2.2.2.1
    omega
  have o4 : ∀ x ∈ l4, x.f1 < a1 := fun x hx => by
    obtain ⟨i, hi⟩ := List.mem_iff_getElem?.1 hx
    have := (hb.g i x hi).2.2.2
    omega
  have w0 : wrap64 (a0 + 1) = a0 + 1 := wrap_succ (by omega) (by omega)
  have w1 : wrap64 (a1 + 1) = a1 + 1 := wrap_succ (by omega) (by omega)
  unfold mailbox_Do.m at e
  rw [w0, w1] at e
  by_cases k1 : c0 = 1
  · rw [if_pos k1] at e
    obtain ⟨rfl, rfl, rfl, rfl, rfl⟩ := by simpa only [Prod.mk.injEq] using e
    exact ⟨by omega, .inr (.inr ⟨rfl, by omega, by rw [chg_append, chg_old o3, List.nil_append]; exact chg_one rfl, van_old o4⟩)⟩
  · rw [if_neg k1] at e
    obtain ⟨n, x, hn, hx, hx0⟩ := place_at (hp.2.2 k1)
    have hnl := (List.getElem?_eq_some_iff.1 hx).1
    have gd : l3.getD (placeFrom l3 c1 0).toNat z78 = x := by rw [hn, Int.toNat_natCast, List.getD_eq_getElem?_getD, hx]; rfl
    rw [gd, hn, Int.toNat_natCast] at e
    by_cases k2 : c0 = 2
    · rw [if_pos k2] at e
      split at e
      · obtain ⟨rfl, rfl, rfl, rfl, rfl⟩ := by simpa only [Prod.mk.injEq] using e
        exact ⟨by omega, .inl ⟨rfl, chg_old o3, van_old o4⟩⟩
      · obtain ⟨rfl, rfl, rfl, rfl, rfl⟩ := by simpa only [Prod.mk.injEq] using e
        exact ⟨by omega, .inr (.inr ⟨rfl, by omega, chg_set o3 hnl rfl, van_old o4⟩)⟩
    · rw [if_neg k2] at e
      have k3 : c0 = 3 := by rcases hc.kind with h | h | h <;> omega
      have oe : ∀ y ∈ l3.eraseIdx n, y.f1 < a1 := fun y hy => o3 y (List.mem_of_mem_eraseIdx hy)
      by_cases h4 : 400 < (l4 ++ [(⟨c1, a1⟩ : S73)]).length
      · rw [if_pos h4, if_pos h4] at e
        cases l4 with
        | nil => simp at h4
        | cons g l4 =>
          have h0 : ((g :: l4) ++ [(⟨c1, a1⟩ : S73)]).getD 0 z73 = g := rfl
          have h1 : ((g :: l4) ++ [(⟨c1, a1⟩ : S73)]).drop 1 = l4 ++ [(⟨c1, a1⟩ : S73)] := rfl
          rw [h0, h1] at e
          obtain ⟨rfl, rfl, rfl, rfl, rfl⟩ := by simpa only [Prod.mk.injEq] using e
          have hg := o4 g List.mem_cons_self
          exact ⟨hg, .inr (.inl ⟨rfl, k3, chg_old oe, by rw [van_append, van_old (fun y hy => o4 y (List.mem_cons_of_mem _ hy)), List.nil_append]; exact van_one rfl⟩)⟩
      · rw [if_neg h4, if_neg h4] at e
        obtain ⟨rfl, rfl, rfl, rfl, rfl⟩ := by simpa only [Prod.mk.injEq] using e
        exact ⟨by omega, .inr (.inl ⟨rfl, k3, chg_old oe, by rw [van_append, van_old o4, List.nil_append]; exact van_one rfl⟩)⟩
/-- RESYNCTELLSONECHANGE ANSWERS YES, whatever its arguments hold. -/
theorem ResyncTellsOneChange_walk (a0 a1 a2 : Int) (aA : Option Addr) (aa : Nat) (a3 : List (S78)) (aB : Option Addr) (ab : Nat) (a4 : List (S73)) (c0 c1 c2 c3 c4 : Int) (cA : Option Addr) (ca : Nat) (c5 : List (S99)) (cB : Option Addr) (cb : Nat) (c6 : List Int) (w : World) (wa : WFBox a3 a4) (ha3 : Kd.C k78 w aA a3.length a3) (ea3 : a3.length ≤ aa) (ha4 : Kd.C k73 w aB a4.length a4) (ea4 : a4.length ≤ ab) (wc : WFMsg c5 c6) (hc5 : Kd.C k99 w cA c5.length c5) (ec5 : c5.length ≤ ca) (hc6 : Kd.C (Kd.int .u8) w cB c6.length c6) (ec6 : c6.length ≤ cb) :
    Calls Tryd.prog 4 #[.agg #[.int .i64 a0, .int .i64 a1, .int .i64 a2, .slice aA a3.length aa, .slice aB a4.length ab], .agg #[.int .i64 c0, .int .i64 c1, .int .i64 c2, .int .i64 c3, .int .i64 c4, .slice cA c5.length ca, .slice cB c6.length cb]] w fun e w' => e = .returned (.bool true) ∧ Below w.heap.size w w' := by
  have hex : ∀ w, Calls Tryd.prog 11 #[] w fun e w' => e = .returned (.bool true) ∧ Below w.heap.size w w' := fun w => posthouselaw8_resyncExample.calls 0 true w rfl
  rcases apply_ev (a0 := a0) (a1 := a1) (a2 := a2) (c0 := c0) (c1 := c1) (c2 := c2) (c3 := c3) (c4 := c4) wa wc with ⟨q, r, hq, K, hK⟩ | ⟨hb, hc, hp, hm⟩
  · exact ResyncTells_a K a0 a1 a2 aA aa a3 aB ab a4 c0 c1 c2 c3 c4 cA ca c5 cB cb c6 0 0 0 [] [] q r w ha3 ea3 ha4 ea4 hc5 ec5 hc6 ec6 hex (hK K (Nat.le_refl _)) (bne_iff_ne.2 hq)
  · obtain ⟨r0, r1, r2, r3, r4, e⟩ : ∃ r0 r1 r2 r3 r4, mailbox_Do.m a0 a1 a2 a3 a4 c0 c1 c2 c3 c4 c5 c6 = (r0, r1, r2, r3, r4) := ⟨_, _, _, _, _, rfl⟩
    obtain ⟨K, hK⟩ := hm _ e
    have nx := do_next hb hc hp wa wc e
    obtain ⟨hr2, ht⟩ := do_tells hb hc hp e
    have hs0 := hb.s0
    have hs1 := hb.s1
    have hle : a1 ≤ r1 := by rcases nx.s with ⟨h, _⟩ | h <;> omega
    obtain ⟨v, ⟨K', hK'⟩, -, hv⟩ := since_ev (a0 := r0) (a1 := r1) (a2 := r2) nx.wf a1
    obtain rfl := hv nx.ok hs0 hle hr2
    have g1 := hK (max K K') (Nat.le_max_left _ _)
    have g2 := hK' (max K K') (Nat.le_max_right _ _)
    rcases ht with ⟨h1, h2, h3⟩ | ⟨h1, h2, h3, h4⟩ | ⟨h1, h2, h3, h4⟩
    · exact ResyncTells_b _ a0 a1 a2 aA aa a3 aB ab a4 c0 c1 c2 c3 c4 cA ca c5 cB cb c6 r0 r1 r2 r3 r4 0 0 w ha3 ea3 ha4 ea4 hc5 ec5 hc6 ec6 hex g1 rfl _ _ 0 g2 (by rw [h1]; exact beq_self_eq_true _) h2 h3
    · exact ResyncTells_c _ a0 a1 a2 aA aa a3 aB ab a4 c0 c1 c2 c3 c4 cA ca c5 cB cb c6 r0 r1 r2 r3 r4 0 0 w ha3 ea3 ha4 ea4 hc5 ec5 hc6 ec6 hex g1 rfl _ _ 0 g2 (beq_eq_false_iff_ne.2 (by omega)) (by rw [h3, h4]; decide) (by rw [h4, h2]; rfl)
    · exact ResyncTells_c _ a0 a1 a2 aA aa a3 aB ab a4 c0 c1 c2 c3 c4 cA ca c5 cB cb c6 r0 r1 r2 r3 r4 0 0 w ha3 ea3 ha4 ea4 hc5 ec5 hc6 ec6 hex g1 rfl _ _ 0 g2 (beq_eq_false_iff_ne.2 (by omega)) (by rw [h3, h4]; decide) (by rw [h4, beq_eq_false_iff_ne.2 h2]; rfl)
end Go.Proofs.YtjmnaipoccpbmaaDoor.P
