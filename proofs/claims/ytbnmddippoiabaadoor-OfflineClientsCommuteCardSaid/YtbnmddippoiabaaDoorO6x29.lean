/- Several texts in one, each in its own section. The last: Two clients that have changed the flags of different messages: offline.Merge in any order leads to the same flags. -/
import Derived.Test.YtbnmddippoiabaaDoorO6x25
import Derived.Test.YtbnmddippoiabaaDoorO6x28
import Derived.Test.YtbnmddippoiabaaDoorO6x26
/- What offline.Merge does to a mailbox: plain Lean over mergeAll. -/
section
namespace Go.Proofs.YtbnmddippoiabaaDoor.P
open Go.RowKit Go.Proofs.YtbnmddippoiabaaDoorW.PrintWords Go.Proofs.YtbnmddippoiabaaDoorW.PrintLast Go.Proofs.YtbnmddippoiabaaDoorW.PrintMore
set_option linter.unusedVariables false
/-- A queued change is fine. -/
structure QOk (q : S43) : Prop where
  s0 : 0 ≤ q.f1
  s1 : q.f1 ≤ 63
  c0 : 0 ≤ q.f2
  c1 : q.f2 ≤ 63
theorem kind_two (q : S43) : queuedKind q = 2 ∨ queuedKind q = 3 := by
  unfold queuedKind
  split
  · exact .inr rfl
  · exact .inl rfl
theorem QOk.change {q : S43} (h : QOk q) : ChangeOk (queuedKind q) q.f0 q.f1 q.f2 0 [] [] :=
  ⟨.inr (kind_two q), h.s0, h.s1, h.c0, h.c1, by omega, by omega, fun he => by rcases kind_two q with h' | h' <;> omega, by simp⟩
theorem outcome_zero {a1 : Int} {l3 : List (S55)} {own : List (Int × Int)} {base : Int} {q : S43} (h : outcomeOf a1 l3 own base q = 0) : 0 ≤ placeFrom l3 q.f0 0 ∧ a1 ≠ 1000000 ∧ ¬ (q.f3 = true ∧ base ≤ (entryOf l3 q).f1 ∧ (entryOf l3 q).f1 ≠ ownAt own q.f0) := by
  unfold outcomeOf at h
  split at h
  · cases h
  · split at h
    · cases h
    · split at h
      · cases h
      · rename_i h1 h2 h3
        exact ⟨by omega, h2, h3⟩
theorem possible_of {a0 a1 : Int} {l3 : List (S55)} {own : List (Int × Int)} {base : Int} {q : S43} (h : outcomeOf a1 l3 own base q = 0) : PossibleAt a0 a1 l3 (queuedKind q) q.f0 := by
  obtain ⟨h1, h2, -⟩ := outcome_zero h
  exact ⟨h2, fun he => by rcases kind_two q with h' | h' <;> omega, fun _ => h1⟩
theorem wf_nil : WFMsg ([] : List (S98)) ([] : List Int) := ⟨by simp, by simp, fun _ h => by cases h⟩
section
variable {a0 a1 a2 : Int} {l3 : List (S55)} {l4 : List (S75)}
theorem doOf_next {q : S43} {own : List (Int × Int)} {base : Int} (hb : BoxOk a0 a1 a2 l3 l4) (hw : WFBox l3 l4) (hq : QOk q) (h : outcomeOf a1 l3 own base q = 0) :
    Next a0 a1 a2 l3 l4 (doOf a0 a1 a2 l3 l4 q).1 (doOf a0 a1 a2 l3 l4 q).2.1 (doOf a0 a1 a2 l3 l4 q).2.2.1 (doOf a0 a1 a2 l3 l4 q).2.2.2.1 (doOf a0 a1 a2 l3 l4 q).2.2.2.2 :=
  do_next hb hq.change (possible_of h) hw wf_nil rfl
theorem entry_is {q : S43} {n : Nat} {x : S55} (hn : placeFrom l3 q.f0 0 = n) (hx : l3[n]? = some x) : entryOf l3 q = x := by
  unfold entryOf
  rw [hn, Int.toNat_natCast, List.getD_eq_getElem?_getD, hx]
  rfl
/-- The flags behind a change. -/
def flagsBy (q : S43) (f : Int) : Int := Go.bits .or .i64 (Go.bits .andNot .i64 f q.f2) q.f1
theorem doOf_remove {q : S43} {n : Nat} (hn : placeFrom l3 q.f0 0 = n) (h : q.f3 = true) : (doOf a0 a1 a2 l3 l4 q).1 = a0 ∧ (doOf a0 a1 a2 l3 l4 q).2.1 = wrap64 (a1 + 1) ∧ (doOf a0 a1 a2 l3 l4 q).2.2.2.1 = l3.eraseIdx n ∧
    (doOf a0 a1 a2 l3 l4 q).2.2.1 = (if 400 < (l4 ++ [(⟨q.f0, a1⟩ : S75)]).length then ((l4 ++ [(⟨q.f0, a1⟩ : S75)]).getD 0 z75).f1 else a2) ∧
    (doOf a0 a1 a2 l3 l4 q).2.2.2.2 = (if 400 < (l4 ++ [(⟨q.f0, a1⟩ : S75)]).length then (l4 ++ [(⟨q.f0, a1⟩ : S75)]).drop 1 else l4 ++ [(⟨q.f0, a1⟩ : S75)]) := by
  unfold doOf queuedKind mailbox_Do.m
  rw [if_pos h, if_neg (show ¬ (3 : Int) = 1 by decide), if_neg (show ¬ (3 : Int) = 2 by decide), hn, Int.toNat_natCast]
  exact ⟨rfl, rfl, rfl, rfl, rfl⟩
theorem doOf_flags {q : S43} {n : Nat} {x : S55} (hn : placeFrom l3 q.f0 0 = n) (hx : l3[n]? = some x) (h : q.f3 = false) :
    doOf a0 a1 a2 l3 l4 q = if flagsBy q x.f2 = x.f2 then (a0, a1, a2, l3, l4) else (a0, wrap64 (a1 + 1), a2, l3.set n ⟨x.f0, a1, flagsBy q x.f2, x.f3, x.f4⟩, l4) := by
  have he : l3.getD (placeFrom l3 q.f0 0).toNat z55 = x := entry_is hn hx
  unfold doOf queuedKind mailbox_Do.m
  rw [if_neg (show ¬ q.f3 = true by rw [h]; simp), if_neg (show ¬ (2 : Int) = 1 by decide), if_pos rfl, he, hn, Int.toNat_natCast]
  rfl
end
/-- A step leads on. -/
theorem mergeAll_yes {base : Int} {q : S43} {l : List (S43)} {a0 a1 a2 : Int} {l3 : List (S55)} {l4 : List (S75)} {own : List (Int × Int)} (h : outcomeOf a1 l3 own base q = 0) :
    (mergeAll base (q :: l) a0 a1 a2 l3 l4 own).1 = (mergeAll base l (doOf a0 a1 a2 l3 l4 q).1 (doOf a0 a1 a2 l3 l4 q).2.1 (doOf a0 a1 a2 l3 l4 q).2.2.1 (doOf a0 a1 a2 l3 l4 q).2.2.2.1 (doOf a0 a1 a2 l3 l4 q).2.2.2.2 (ownNext a0 a1 a2 l3 l4 own base q)).1 := by rw [mergeAll, if_pos h]
theorem mergeAll_no {base : Int} {q : S43} {l : List (S43)} {a0 a1 a2 : Int} {l3 : List (S55)} {l4 : List (S75)} {own : List (Int × Int)} (h : ¬ outcomeOf a1 l3 own base q = 0) :
    (mergeAll base (q :: l) a0 a1 a2 l3 l4 own).1 = (mergeAll base l a0 a1 a2 l3 l4 own).1 := by rw [mergeAll, if_neg h]
/-- The mailbox stays valid, and gets no message. -/
theorem merge_keeps (base : Int) : ∀ (l : List (S43)) (a0 a1 a2 : Int) (l3 : List (S55)) (l4 : List (S75)) (own : List (Int × Int)) (r0 r1 r2 : Int) (r3 : List (S55)) (r4 : List (S75)), (∀ q ∈ l, QOk q) → BoxOk a0 a1 a2 l3 l4 → WFBox l3 l4 → (mergeAll base l a0 a1 a2 l3 l4 own).1 = (r0, r1, r2, r3, r4) →
    BoxOk r0 r1 r2 r3 r4 ∧ WFBox r3 r4 ∧ r3.length ≤ l3.length ∧ a1 ≤ r1
  | [], a0, a1, a2, l3, l4, own, r0, r1, r2, r3, r4, _, hb, hw, e => by
    simp only [mergeAll, Prod.mk.injEq] at e
    obtain ⟨rfl, rfl, rfl, rfl, rfl⟩ := e
    exact ⟨hb, hw, Nat.le_refl _, Int.le_refl _⟩
  | q :: l, a0, a1, a2, l3, l4, own, r0, r1, r2, r3, r4, hq, hb, hw, e => by
    by_cases h : outcomeOf a1 l3 own base q = 0
    · rw [mergeAll_yes h] at e
      have nx := doOf_next hb hw (hq q List.mem_cons_self) h
      obtain ⟨h1, h2, h3, h4⟩ := merge_keeps base l _ _ _ _ _ _ r0 r1 r2 r3 r4 (fun x hx => hq x (List.mem_cons_of_mem _ hx)) nx.ok nx.wf e
      refine ⟨h1, h2, Nat.le_trans h3 ?_, by have := nx.s; omega⟩
      obtain ⟨n, x, hn, hx, hx0⟩ := place_at (outcome_zero h).1
      cases hr : q.f3 with
      | true => rw [(doOf_remove hn hr).2.2.1]; exact List.length_eraseIdx_le _ _
      | false =>
        rw [doOf_flags hn hx hr]
        split
        · exact Nat.le_refl _
        · exact Nat.le_of_eq (by simp)
    · rw [mergeAll_no h] at e
      exact merge_keeps base l a0 a1 a2 l3 l4 own r0 r1 r2 r3 r4 (fun x hx => hq x (List.mem_cons_of_mem _ hx)) hb hw e
end Go.Proofs.YtbnmddippoiabaaDoor.P
end
/- What offline.Merge answers: plain Lean over the printed functions. -/
section
namespace Go.Proofs.YtbnmddippoiabaaDoor.P
open Go.RowKit Go.Proofs.YtbnmddippoiabaaDoorW.PrintWords Go.Proofs.YtbnmddippoiabaaDoorW.PrintLast Go.Proofs.YtbnmddippoiabaaDoorW.PrintMore
set_option linter.unusedVariables false
theorem rd_queued {l : List (S43)} {n : Nat} {x : S43} (h : l[n]? = some x) : rd_T43 l (n : Int) = x := by rw [rd_T43, Int.toNat_natCast, List.getD_eq_getElem?_getD, h]; rfl
theorem queuedj_ev (l t : List (S43)) (j : Nat) (x : S43) (hj : j < 1000) (next : ∃ r, Ev (fun k => offline_queued.l0 k l l.length ((j + 1 : Nat) : Int)) r ∧ (r.1 = 0 → r.2 = 0 ∧ ∀ q ∈ t, QOk q)) (b : Bool) :
    ∃ r, Ev (fun k => offline_queued.j1 k j l l.length j b x.f0 x.f1 x.f2 x.f3) r ∧ (r.1 = 0 → r.2 = 0 ∧ b = false ∧ ∀ q ∈ t, QOk q) := by
  have hw : wrap64 ((j : Int) + 1) = ((j + 1 : Nat) : Int) := by unfold wrap64; omega
  cases b with
  | true => exact ⟨(3, wrap64 (1000 + j)), Ev.one (fun k => by simp only [offline_queued.j1]; rw [if_pos trivial]), fun h => by cases h⟩
  | false =>
    obtain ⟨r, hr, h0⟩ := next
    have last : ∀ (g : Nat → Option (Int × Int)), (∀ k, g k = if (Go.bits .and .i64 x.f1 x.f2) = 0 then (offline_queued.l0 k l l.length (wrap64 ((j : Int) + 1))) else (some (5, wrap64 (1000 + (j : Int))))) → ∃ r, Ev g r ∧ (r.1 = 0 → r.2 = 0 ∧ false = false ∧ ∀ q ∈ t, QOk q) := fun g hg => by
      by_cases hb : Go.bits .and .i64 x.f1 x.f2 = 0
      · exact ⟨r, Ev.congr (fun k => by rw [hg, if_pos hb, hw]) hr, fun h => ⟨(h0 h).1, rfl, (h0 h).2⟩⟩
      · exact ⟨(5, wrap64 (1000 + j)), Ev.congr (fun k => by rw [hg, if_neg hb]) (Ev.now _), fun h => by cases h⟩
    cases h3 : x.f3 with
    | true =>
      by_cases hp : wrap64 (x.f1 + x.f2) > 0
      · exact ⟨(5, wrap64 (1000 + j)), Ev.one (fun k => by simp only [offline_queued.j1]; rw [if_neg (by simp), if_pos trivial, if_pos hp]), fun h => by cases h⟩
      · obtain ⟨r', hr', h'⟩ := last _ (fun k => rfl)
        exact ⟨r', Ev.step (fun k => by simp only [offline_queued.j1]; rw [if_neg (by simp), if_pos trivial, if_neg hp]) hr', h'⟩
    | false =>
      obtain ⟨r', hr', h'⟩ := last _ (fun k => rfl)
      exact ⟨r', Ev.step (fun k => by simp only [offline_queued.j1]; rw [if_neg (by simp), if_neg (by simp)]) hr', h'⟩
theorem queuedl_ev (l : List (S43)) (hl : l.length ≤ 100) : ∀ (t : List (S43)) (j : Nat), l.drop j = t → ∃ r, Ev (fun k => offline_queued.l0 k l l.length j) r ∧ (r.1 = 0 → r.2 = 0 ∧ ∀ q ∈ t, QOk q)
  | [], j, hd => by
    have hj : l.length ≤ j := List.drop_eq_nil_iff.1 hd
    exact ⟨(0, 0), Ev.one (fun k => by simp only [offline_queued.l0]; rw [if_neg (by omega)]), fun _ => ⟨rfl, fun _ h => by cases h⟩⟩
  | x :: t, j, hd => by
    have hx : l[j]? = some x := by rw [← List.head?_drop, hd]; rfl
    have hj := (List.getElem?_eq_some_iff.1 hx).1
    have hd' : l.drop (j + 1) = t := by rw [← List.tail_drop, hd]; rfl
    have next := queuedl_ev l hl t (j + 1) hd'
    by_cases c1 : x.f1 < 0
    · obtain ⟨r, hr, h0⟩ := queuedj_ev l t j x (by omega) next true
      exact ⟨r, Ev.step (fun k => by simp only [offline_queued.l0]; rw [if_pos (by omega), if_pos (by omega), if_pos (by omega), rd_queued hx, if_pos c1]) hr, fun h => absurd (h0 h).2.1 (by decide)⟩
    · by_cases c2 : x.f1 > 63
      · obtain ⟨r, hr, h0⟩ := queuedj_ev l t j x (by omega) next true
        exact ⟨r, Ev.step (fun k => by simp only [offline_queued.l0]; rw [if_pos (by omega), if_pos (by omega), if_pos (by omega), rd_queued hx, if_neg c1, if_pos c2]) hr, fun h => absurd (h0 h).2.1 (by decide)⟩
      · by_cases c3 : x.f2 < 0
        · obtain ⟨r, hr, h0⟩ := queuedj_ev l t j x (by omega) next true
          exact ⟨r, Ev.step (fun k => by simp only [offline_queued.l0]; rw [if_pos (by omega), if_pos (by omega), if_pos (by omega), rd_queued hx, if_neg c1, if_neg c2, if_pos c3]) hr, fun h => absurd (h0 h).2.1 (by decide)⟩
        · obtain ⟨r, hr, h0⟩ := queuedj_ev l t j x (by omega) next (decide (x.f2 > 63))
          refine ⟨r, Ev.step (fun k => by simp only [offline_queued.l0]; rw [if_pos (by omega), if_pos (by omega), if_pos (by omega), rd_queued hx, if_neg c1, if_neg c2, if_neg c3]) hr, fun h => ?_⟩
          obtain ⟨h1, h2, h3⟩ := h0 h
          have c4 := of_decide_eq_false h2
          refine ⟨h1, fun q hq => ?_⟩
          rcases List.mem_cons.1 hq with e | hq
          · rw [e]; exact ⟨by omega, by omega, by omega, by omega⟩
          · exact h3 q hq
theorem queued_ev (l : List (S43)) : ∃ r, Ev (fun k => offline_queued.f k l) r ∧ (r.1 = 0 → r.2 = 0 ∧ l.length ≤ 100 ∧ ∀ q ∈ l, QOk q) := by
  by_cases h : (l.length : Int) > 100
  · exact ⟨(2, -2), Ev.congr (fun k => by unfold offline_queued.f; rw [if_pos h]) (Ev.now _), fun h => by cases h⟩
  · obtain ⟨r, hr, h0⟩ := queuedl_ev l (by omega) l 0 rfl
    exact ⟨r, Ev.congr (fun k => by unfold offline_queued.f; rw [if_neg h]; rfl) hr, fun h1 => ⟨(h0 h1).1, by omega, (h0 h1).2⟩⟩
theorem box_wf {a0 a1 a2 : Int} {l3 : List (S55)} {l4 : List (S75)} (hw : WFBox l3 l4) {k : Nat} (h : mailbox_Validate.f k a0 a1 a2 l3 l4 = some (0, 0)) : (Lit.int .i64 a1).wf = true := by
  obtain ⟨v, hv, h1, h2⟩ := box_ev (a0 := a0) (a1 := a1) (a2 := a2) hw
  have e := Ev.uniq hv (Ev.of (fun k => mailbox_Validate.mono _ _ _ _ _ k) h)
  have hb := h2.1 (by rw [e])
  have hs0 := hb.s0
  have hs1 := hb.s1
  exact WalkArith.wf_i64 ⟨by omega, by omega⟩
theorem box_sized {a0 a1 a2 : Int} {l3 : List (S55)} {l4 : List (S75)} (hw : WFBox l3 l4) (hb : BoxOk a0 a1 a2 l3 l4) (ql : List (S43)) (hq : ql.length ≤ 100) : msized l3 l4 ql := by
  refine ⟨Nat.le_trans hb.n3 (by omega), Nat.le_trans hb.n4 (by omega), by omega, fun e he => ?_⟩
  obtain ⟨i, hi⟩ := List.mem_iff_getElem?.1 he
  have := msgOk_small (hw.2.2 e he) (hb.e i e hi).2.2.2.2.2.2.2.2
  omega
/-- What Merge answers. -/
theorem merge_ev {a0 a1 a2 : Int} {l3 : List (S55)} {l4 : List (S75)} (hw : WFBox l3 l4) (base : Int) (ql : List (S43)) : ∃ (r0 r1 r2 : Int) (r3 : List (S55)) (r4 : List (S75)) (sl : List (S68)) (s5 s6 : Int), Ev (fun k => offline_Merge.f k a0 a1 a2 l3 l4 base ql) (r0, r1, r2, r3, r4, sl, s5, s6) ∧
    (s5 = 0 → BoxOk a0 a1 a2 l3 l4 ∧ 1 ≤ base ∧ base ≤ a1 ∧ ql.length ≤ 100 ∧ (∀ q ∈ ql, QOk q) ∧ (mergeAll base ql a0 a1 a2 l3 l4 []).1 = (r0, r1, r2, r3, r4) ∧ (mergeAll base ql a0 a1 a2 l3 l4 []).2 = sl) ∧ WFBox r3 r4 := by
  have wn : WFBox ([] : List (S55)) ([] : List (S75)) := ⟨by simp, by simp, fun _ h => by cases h⟩
  obtain ⟨v, hv, h1, h2⟩ := box_ev (a0 := a0) (a1 := a1) (a2 := a2) hw
  by_cases e1 : v = (0, 0)
  · have hb := h2.1 (by rw [e1])
    by_cases e2 : base < 1 ∨ a1 < base
    · exact ⟨0, 0, 0, [], [], [], 3, -4, Ev.bind hv (f := fun k t => _) (Ev.congr (fun k => by rw [if_pos e1, if_pos e2]) (Ev.now _)), (fun h => by cases h), wn⟩
    · obtain ⟨u, hu, h3⟩ := queued_ev ql
      by_cases e3 : u = (0, 0)
      · obtain ⟨-, h4, h5⟩ := h3 (by rw [e3])
        have hs := box_sized hw hb ql h4
        have hk := merge_keeps base ql a0 a1 a2 l3 l4 [] _ _ _ _ _ h5 hb hw rfl
        exact ⟨_, _, _, _, _, _, 0, 0, Ev.bind hv (f := fun k t => _) (Ev.congr (fun k => by rw [if_pos e1, if_neg e2]) (Ev.bind hu (f := fun k (u : Int × Int) => if u = (0, 0) then (if msized l3 l4 ql then some ((mergeAll base ql a0 a1 a2 l3 l4 []).1.1, (mergeAll base ql a0 a1 a2 l3 l4 []).1.2.1, (mergeAll base ql a0 a1 a2 l3 l4 []).1.2.2.1, (mergeAll base ql a0 a1 a2 l3 l4 []).1.2.2.2.1, (mergeAll base ql a0 a1 a2 l3 l4 []).1.2.2.2.2, (mergeAll base ql a0 a1 a2 l3 l4 []).2, (0 : Int), (0 : Int)) else none) else some (0, 0, 0, [], [], [], u.1, u.2)) (Ev.congr (fun k => by rw [if_pos e3, if_pos hs]) (Ev.now _)))), fun _ => ⟨hb, by omega, by omega, h4, h5, rfl, rfl⟩, hk.2.1⟩
      · refine ⟨0, 0, 0, [], [], [], u.1, u.2, Ev.bind hv (f := fun k t => _) (Ev.congr (fun k => by rw [if_pos e1, if_neg e2]) (Ev.bind hu (f := fun k (u : Int × Int) => if u = (0, 0) then (if msized l3 l4 ql then some ((mergeAll base ql a0 a1 a2 l3 l4 []).1.1, (mergeAll base ql a0 a1 a2 l3 l4 []).1.2.1, (mergeAll base ql a0 a1 a2 l3 l4 []).1.2.2.1, (mergeAll base ql a0 a1 a2 l3 l4 []).1.2.2.2.1, (mergeAll base ql a0 a1 a2 l3 l4 []).1.2.2.2.2, (mergeAll base ql a0 a1 a2 l3 l4 []).2, (0 : Int), (0 : Int)) else none) else some (0, 0, 0, [], [], [], u.1, u.2)) (Ev.congr (fun k => by rw [if_neg e3]) (Ev.now _)))), fun h => absurd (Prod.ext h (h3 h).1) e3, wn⟩
  · exact ⟨0, 0, 0, [], [], [], v.1, v.2, Ev.bind hv (f := fun k t => _) (Ev.congr (fun k => by rw [if_neg e1]) (Ev.now _)), fun h => absurd (Prod.ext h (h1 h)) e1, wn⟩
end Go.Proofs.YtbnmddippoiabaaDoor.P
end
/- Two clients that have changed the flags of different messages: offline.Merge in any order leads to the same flags. -/
section
namespace Go.Proofs.YtbnmddippoiabaaDoor.P
open Go.RowKit Go.Proofs.YtbnmddippoiabaaDoorW.PrintWords Go.Proofs.YtbnmddippoiabaaDoorW.PrintLast Go.Proofs.YtbnmddippoiabaaDoorW.PrintMore
set_option linter.unusedVariables false
/-- What is seen of a mailbox. -/
def seenOf (l : List (S55)) : List (S83) := l.map (fun x => ⟨x.f0, x.f2⟩)
def updBy (q : S43) (x : S83) : S83 := if x.f0 = q.f0 then ⟨x.f0, flagsBy q x.f1⟩ else x
def chgBy (q : S43) (x : S83) : Bool := x.f0 == q.f0 && flagsBy q x.f1 != x.f1
/-- One change of flags, seen from outside. -/
def absStep (s : Int × List (S83)) (q : S43) : Int × List (S83) := (if s.2.any (chgBy q) = true then s.1 + 1 else s.1, s.2.map (updBy q))
theorem updBy_num (q : S43) (x : S83) : (updBy q x).f0 = x.f0 := by unfold updBy; split <;> rfl
theorem updBy_other {q : S43} {x : S83} (h : x.f0 ≠ q.f0) : updBy q x = x := if_neg h
theorem chgBy_upd {q r : S43} (h : q.f0 ≠ r.f0) (x : S83) : chgBy q (updBy r x) = chgBy q x := by
  by_cases e : x.f0 = r.f0
  · have h1 : (x.f0 == q.f0) = false := beq_eq_false_iff_ne.2 (fun h9 => h (h9.symm.trans e))
    unfold chgBy
    rw [updBy_num, h1, Bool.false_and, Bool.false_and]
  · rw [updBy_other e]
theorem upd_comm {q r : S43} (h : q.f0 ≠ r.f0) (x : S83) : updBy q (updBy r x) = updBy r (updBy q x) := by
  by_cases e : x.f0 = r.f0
  · have h1 : x.f0 ≠ q.f0 := fun h9 => h (h9.symm.trans e)
    rw [updBy_other h1, updBy_other (x := updBy r x) (by rw [updBy_num]; exact h1)]
  · rw [updBy_other e, updBy_other (q := r) (x := updBy q x) (by rw [updBy_num]; exact e)]
theorem any_upd {q r : S43} (h : q.f0 ≠ r.f0) (l : List (S83)) : (l.map (updBy r)).any (chgBy q) = l.any (chgBy q) := by
  rw [List.any_map]
  exact congrArg (fun p => l.any p) (funext (fun x => chgBy_upd h x))
theorem abs_comm {q r : S43} (h : q.f0 ≠ r.f0) (s : Int × List (S83)) : absStep (absStep s r) q = absStep (absStep s q) r := by
  unfold absStep
  dsimp only
  rw [any_upd h, any_upd (Ne.symm h), List.map_map, List.map_map]
  refine Prod.ext ?_ ?_
  · dsimp only
    split <;> split <;> omega
  · exact List.map_congr_left (fun x _ => upd_comm h x)
theorem fold_one {r : S43} : ∀ (a : List (S43)) (s : Int × List (S83)), (∀ q ∈ a, q.f0 ≠ r.f0) → a.foldl absStep (absStep s r) = absStep (a.foldl absStep s) r
  | [], _, _ => rfl
  | q :: a, s, h => by
    rw [List.foldl_cons, List.foldl_cons, abs_comm (h q List.mem_cons_self)]
    exact fold_one a _ (fun x hx => h x (List.mem_cons_of_mem _ hx))
theorem fold_comm (a : List (S43)) : ∀ (b : List (S43)) (s : Int × List (S83)), (∀ q ∈ a, ∀ r ∈ b, q.f0 ≠ r.f0) → a.foldl absStep (b.foldl absStep s) = b.foldl absStep (a.foldl absStep s)
  | [], _, _ => rfl
  | r :: b, s, h => by
    rw [List.foldl_cons, List.foldl_cons, fold_comm a b _ (fun q hq x hx => h q hq x (List.mem_cons_of_mem _ hx)), fold_one a s (fun q hq => h q hq r List.mem_cons_self)]
theorem seenOf_none {l : List (S55)} {q : S43} (h : ∀ x ∈ l, x.f0 ≠ q.f0) (n : Int) : absStep (n, seenOf l) q = (n, seenOf l) := by
  have h1 : (seenOf l).any (chgBy q) = false := by
    rw [List.any_eq_false]
    intro y hy
    obtain ⟨x, hx, rfl⟩ := List.mem_map.1 hy
    have := h x hx
    simp [chgBy, this]
  have h2 : (seenOf l).map (updBy q) = seenOf l := by
    unfold seenOf
    rw [List.map_map]
    exact List.map_congr_left (fun x hx => updBy_other (h x hx))
  unfold absStep
  dsimp only
  rw [h1, h2, if_neg (by simp)]
theorem seenOf_set {a0 a1 a2 : Int} {l : List (S55)} {l4 : List (S75)} (hb : BoxOk a0 a1 a2 l l4) {q : S43} {n : Nat} {x : S55} (hx : l[n]? = some x) (hx0 : x.f0 = q.f0) (s : Int) : (seenOf l).map (updBy q) = seenOf (l.set n ⟨x.f0, s, flagsBy q x.f2, x.f3, x.f4⟩) := by
  apply List.ext_getElem?
  intro j
  unfold seenOf
  rw [List.map_map, List.getElem?_map, List.getElem?_map]
  by_cases hj : j = n
  · subst hj
    rw [hx, List.getElem?_set_self (List.getElem?_eq_some_iff.1 hx).1]
    simp [updBy, hx0]
  · rw [List.getElem?_set_ne (fun e => hj e.symm)]
    cases hy : l[j]? with
    | none => rfl
    | some y =>
      have hne : y.f0 ≠ q.f0 := fun e => hj (hb.uniq j n y x hy hx (e.trans hx0.symm))
      simp [updBy, hne]
theorem merge_flags (base : Int) : ∀ (l : List (S43)) (a0 a1 a2 : Int) (l3 : List (S55)) (l4 : List (S75)) (own : List (Int × Int)), (∀ q ∈ l, QOk q) → (∀ q ∈ l, q.f3 = false) → BoxOk a0 a1 a2 l3 l4 → WFBox l3 l4 → a1 + l.length < 1000000 →
    ((mergeAll base l a0 a1 a2 l3 l4 own).1.2.1, seenOf (mergeAll base l a0 a1 a2 l3 l4 own).1.2.2.2.1) = l.foldl absStep (a1, seenOf l3)
  | [], _, _, _, _, _, _, _, _, _, _, _ => rfl
  | q :: l, a0, a1, a2, l3, l4, own, hq, hr, hb, hw, hs => by
    have hq' := fun x hx => hq x (List.mem_cons_of_mem _ hx)
    have hr' := fun x hx => hr x (List.mem_cons_of_mem _ hx)
    have hr0 := hr q List.mem_cons_self
    rw [List.length_cons] at hs
    have hs0 := hb.s0
    have w1 : wrap64 (a1 + 1) = a1 + 1 := wrap_succ (by omega) (by omega)
    rw [List.foldl_cons]
    by_cases hp : placeFrom l3 q.f0 0 < 0
    · have h : ¬ outcomeOf a1 l3 own base q = 0 := by unfold outcomeOf; rw [if_pos hp]; decide
      rw [mergeAll_no h, seenOf_none (place_neg.1 hp)]
      exact merge_flags base l a0 a1 a2 l3 l4 own hq' hr' hb hw (by omega)
    · have h : outcomeOf a1 l3 own base q = 0 := by
        unfold outcomeOf
        rw [if_neg hp, if_neg (by omega), if_neg (fun h9 => by rw [hr0] at h9; exact absurd h9.1 (by decide))]
      have nx := doOf_next hb hw (hq q List.mem_cons_self) h
      obtain ⟨n, x, hn, hx, hx0⟩ := place_at (show 0 ≤ placeFrom l3 q.f0 0 by omega)
      have e := doOf_flags (a0 := a0) (a1 := a1) (a2 := a2) (l4 := l4) hn hx hr0
      rw [mergeAll_yes h]
      have hany : (seenOf l3).any (chgBy q) = (flagsBy q x.f2 != x.f2) := by
        by_cases hf : flagsBy q x.f2 = x.f2
        · rw [show (flagsBy q x.f2 != x.f2) = false by simp [hf], List.any_eq_false]
          intro y hy
          obtain ⟨z, hz, rfl⟩ := List.mem_map.1 hy
          by_cases hz0 : z.f0 = q.f0
          · obtain ⟨m, hm⟩ := List.mem_iff_getElem?.1 hz
            obtain rfl := hb.uniq m n z x hm hx (hz0.trans hx0.symm)
            rw [hx] at hm
            injection hm with hm
            subst hm
            simp [chgBy, hf]
          · simp [chgBy, hz0]
        · rw [show (flagsBy q x.f2 != x.f2) = true by simp [hf], List.any_eq_true]
          exact ⟨⟨x.f0, x.f2⟩, List.mem_map.2 ⟨x, List.mem_of_getElem? hx, rfl⟩, by simp [chgBy, hx0, hf]⟩
      by_cases hf : flagsBy q x.f2 = x.f2
      · have h1 : absStep (a1, seenOf l3) q = (a1, seenOf l3) := by
          unfold absStep
          dsimp only
          rw [hany, if_neg (by simp [hf]), seenOf_set hb hx hx0 x.f1, hf]
          rw [show l3.set n ⟨x.f0, x.f1, x.f2, x.f3, x.f4⟩ = l3 from ?_]
          apply List.ext_getElem?
          intro j
          by_cases hj : n = j
          · subst hj; rw [List.getElem?_set_self (List.getElem?_eq_some_iff.1 hx).1, hx]
          · rw [List.getElem?_set_ne hj]
        rw [if_pos hf] at e
        rw [h1]
        have hg := nx.ok
        have hgw := nx.wf
        rw [e] at hg hgw ⊢
        exact merge_flags base l a0 a1 a2 l3 l4 _ hq' hr' hg hgw (by omega)
      · have h1 : absStep (a1, seenOf l3) q = (a1 + 1, seenOf (l3.set n ⟨x.f0, a1, flagsBy q x.f2, x.f3, x.f4⟩)) := by
          unfold absStep
          dsimp only
          rw [hany, if_pos (by simp [hf]), seenOf_set hb hx hx0 a1]
        rw [if_neg hf] at e
        rw [h1]
        have hg := nx.ok
        have hgw := nx.wf
        rw [e] at hg hgw ⊢
        dsimp only at hg hgw ⊢
        rw [w1] at hg ⊢
        exact merge_flags base l a0 (a1 + 1) a2 _ l4 _ hq' hr' hg hgw (by omega)
end Go.Proofs.YtbnmddippoiabaaDoor.P
end
