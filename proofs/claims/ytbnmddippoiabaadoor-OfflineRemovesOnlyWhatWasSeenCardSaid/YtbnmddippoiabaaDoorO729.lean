/- Several texts in one, each in its own section. The last: Functions of this seat as Lean functions, and that the Go code comes to their answers: written by a program of this session's. -/
import Derived.Test.YtbnmddippoiabaaDoorO725
import Derived.Test.YtbnmddippoiabaaDoorO728
import Derived.Test.YtbnmddippoiabaaDoorO726
import Derived.Test.YtbnmddippoiabaaDoorO710
/- What offline.Merge does to a mailbox: plain Lean over mergeAll. -/
section
namespace Go.Proofs.YtbnmddippoiabaaDoor.P
open Go.RowKit Go.Proofs.YtbnmddippoiabaaDoorW.PrintWords Go.Proofs.YtbnmddippoiabaaDoorW.PrintLast Go.Proofs.YtbnmddippoiabaaDoorW.PrintMore
set_option linter.unusedVariables false
/-- A queued change is fine. -/
structure QOk (q : S43) : Prop where
  s0 : 0 ≤ q.f1
  s1 : q.f1 ≤ 63
  c0 : 0 ≤ q.f2
  c1 : q.f2 ≤ 63
theorem kind_two (q : S43) : queuedKind q = 2 ∨ queuedKind q = 3 := by
  unfold queuedKind
  split
  · exact .inr rfl
  · exact .inl rfl
theorem QOk.change {q : S43} (h : QOk q) : ChangeOk (queuedKind q) q.f0 q.f1 q.f2 0 [] [] :=
  ⟨.inr (kind_two q), h.s0, h.s1, h.c0, h.c1, by omega, by omega, fun he => by rcases kind_two q with h' | h' <;> omega, by simp⟩
theorem outcome_zero {a1 : Int} {l3 : List (S55)} {own : List (Int × Int)} {base : Int} {q : S43} (h : outcomeOf a1 l3 own base q = 0) : 0 ≤ placeFrom l3 q.f0 0 ∧ a1 ≠ 1000000 ∧ ¬ (q.f3 = true ∧ base ≤ (entryOf l3 q).f1 ∧ (entryOf l3 q).f1 ≠ ownAt own q.f0) := by
  unfold outcomeOf at h
  split at h
  · cases h
  · split at h
    · cases h
    · split at h
      · cases h
      · rename_i h1 h2 h3
        exact ⟨by omega, h2, h3⟩
theorem possible_of {a0 a1 : Int} {l3 : List (S55)} {own : List (Int × Int)} {base : Int} {q : S43} (h : outcomeOf a1 l3 own base q = 0) : PossibleAt a0 a1 l3 (queuedKind q) q.f0 := by
  obtain ⟨h1, h2, -⟩ := outcome_zero h
  exact ⟨h2, fun he => by rcases kind_two q with h' | h' <;> omega, fun _ => h1⟩
theorem wf_nil : WFMsg ([] : List (S98)) ([] : List Int) := ⟨by simp, by simp, fun _ h => by cases h⟩
section
variable {a0 a1 a2 : Int} {l3 : List (S55)} {l4 : List (S75)}
theorem doOf_next {q : S43} {own : List (Int × Int)} {base : Int} (hb : BoxOk a0 a1 a2 l3 l4) (hw : WFBox l3 l4) (hq : QOk q) (h : outcomeOf a1 l3 own base q = 0) :
    Next a0 a1 a2 l3 l4 (doOf a0 a1 a2 l3 l4 q).1 (doOf a0 a1 a2 l3 l4 q).2.1 (doOf a0 a1 a2 l3 l4 q).2.2.1 (doOf a0 a1 a2 l3 l4 q).2.2.2.1 (doOf a0 a1 a2 l3 l4 q).2.2.2.2 :=
  do_next hb hq.change (possible_of h) hw wf_nil rfl
theorem entry_is {q : S43} {n : Nat} {x : S55} (hn : placeFrom l3 q.f0 0 = n) (hx : l3[n]? = some x) : entryOf l3 q = x := by
  unfold entryOf
  rw [hn, Int.toNat_natCast, List.getD_eq_getElem?_getD, hx]
  rfl
/-- The flags behind a change. -/
def flagsBy (q : S43) (f : Int) : Int := Go.bits .or .i64 (Go.bits .andNot .i64 f q.f2) q.f1
theorem doOf_remove {q : S43} {n : Nat} (hn : placeFrom l3 q.f0 0 = n) (h : q.f3 = true) : (doOf a0 a1 a2 l3 l4 q).1 = a0 ∧ (doOf a0 a1 a2 l3 l4 q).2.1 = wrap64 (a1 + 1) ∧ (doOf a0 a1 a2 l3 l4 q).2.2.2.1 = l3.eraseIdx n ∧
    (doOf a0 a1 a2 l3 l4 q).2.2.1 = (if 400 < (l4 ++ [(⟨q.f0, a1⟩ : S75)]).length then ((l4 ++ [(⟨q.f0, a1⟩ : S75)]).getD 0 z75).f1 else a2) ∧
    (doOf a0 a1 a2 l3 l4 q).2.2.2.2 = (if 400 < (l4 ++ [(⟨q.f0, a1⟩ : S75)]).length then (l4 ++ [(⟨q.f0, a1⟩ : S75)]).drop 1 else l4 ++ [(⟨q.f0, a1⟩ : S75)]) := by
  unfold doOf queuedKind mailbox_Do.m
  rw [if_pos h, if_neg (show ¬ (3 : Int) = 1 by decide), if_neg (show ¬ (3 : Int) = 2 by decide), hn, Int.toNat_natCast]
  exact ⟨rfl, rfl, rfl, rfl, rfl⟩
theorem doOf_flags {q : S43} {n : Nat} {x : S55} (hn : placeFrom l3 q.f0 0 = n) (hx : l3[n]? = some x) (h : q.f3 = false) :
    doOf a0 a1 a2 l3 l4 q = if flagsBy q x.f2 = x.f2 then (a0, a1, a2, l3, l4) else (a0, wrap64 (a1 + 1), a2, l3.set n ⟨x.f0, a1, flagsBy q x.f2, x.f3, x.f4⟩, l4) := by
  have he : l3.getD (placeFrom l3 q.f0 0).toNat z55 = x := entry_is hn hx
  unfold doOf queuedKind mailbox_Do.m
  rw [if_neg (show ¬ q.f3 = true by rw [h]; simp), if_neg (show ¬ (2 : Int) = 1 by decide), if_pos rfl, he, hn, Int.toNat_natCast]
  rfl
end
/-- A step leads on. -/
theorem mergeAll_yes {base : Int} {q : S43} {l : List (S43)} {a0 a1 a2 : Int} {l3 : List (S55)} {l4 : List (S75)} {own : List (Int × Int)} (h : outcomeOf a1 l3 own base q = 0) :
    (mergeAll base (q :: l) a0 a1 a2 l3 l4 own).1 = (mergeAll base l (doOf a0 a1 a2 l3 l4 q).1 (doOf a0 a1 a2 l3 l4 q).2.1 (doOf a0 a1 a2 l3 l4 q).2.2.1 (doOf a0 a1 a2 l3 l4 q).2.2.2.1 (doOf a0 a1 a2 l3 l4 q).2.2.2.2 (ownNext a0 a1 a2 l3 l4 own base q)).1 := by rw [mergeAll, if_pos h]
theorem mergeAll_no {base : Int} {q : S43} {l : List (S43)} {a0 a1 a2 : Int} {l3 : List (S55)} {l4 : List (S75)} {own : List (Int × Int)} (h : ¬ outcomeOf a1 l3 own base q = 0) :
    (mergeAll base (q :: l) a0 a1 a2 l3 l4 own).1 = (mergeAll base l a0 a1 a2 l3 l4 own).1 := by rw [mergeAll, if_neg h]
/-- The mailbox stays valid, and gets no message. -/
theorem merge_keeps (base : Int) : ∀ (l : List (S43)) (a0 a1 a2 : Int) (l3 : List (S55)) (l4 : List (S75)) (own : List (Int × Int)) (r0 r1 r2 : Int) (r3 : List (S55)) (r4 : List (S75)), (∀ q ∈ l, QOk q) → BoxOk a0 a1 a2 l3 l4 → WFBox l3 l4 → (mergeAll base l a0 a1 a2 l3 l4 own).1 = (r0, r1, r2, r3, r4) →
    BoxOk r0 r1 r2 r3 r4 ∧ WFBox r3 r4 ∧ r3.length ≤ l3.length ∧ a1 ≤ r1
  | [], a0, a1, a2, l3, l4, own, r0, r1, r2, r3, r4, _, hb, hw, e => by
    simp only [mergeAll, Prod.mk.injEq] at e
    obtain ⟨rfl, rfl, rfl, rfl, rfl⟩ := e
    exact ⟨hb, hw, Nat.le_refl _, Int.le_refl _⟩
  | q :: l, a0, a1, a2, l3, l4, own, r0, r1, r2, r3, r4, hq, hb, hw, e => by
    by_cases h : outcomeOf a1 l3 own base q = 0
    · rw [mergeAll_yes h] at e
      have nx := doOf_next hb hw (hq q List.mem_cons_self) h
      obtain ⟨h1, h2, h3, h4⟩ := merge_keeps base l _ _ _ _ _ _ r0 r1 r2 r3 r4 (fun x hx => hq x (List.mem_cons_of_mem _ hx)) nx.ok nx.wf e
      refine ⟨h1, h2, Nat.le_trans h3 ?_, by have := nx.s; omega⟩
      obtain ⟨n, x, hn, hx, hx0⟩ := place_at (outcome_zero h).1
      cases hr : q.f3 with
      | true => rw [(doOf_remove hn hr).2.2.1]; exact List.length_eraseIdx_le _ _
      | false =>
        rw [doOf_flags hn hx hr]
        split
        · exact Nat.le_refl _
        · exact Nat.le_of_eq (by simp)
    · rw [mergeAll_no h] at e
      exact merge_keeps base l a0 a1 a2 l3 l4 own r0 r1 r2 r3 r4 (fun x hx => hq x (List.mem_cons_of_mem _ hx)) hb hw e
end Go.Proofs.YtbnmddippoiabaaDoor.P
end
/- What offline.Merge answers: plain Lean over the printed functions. -/
section
namespace Go.Proofs.YtbnmddippoiabaaDoor.P
open Go.RowKit Go.Proofs.YtbnmddippoiabaaDoorW.PrintWords Go.Proofs.YtbnmddippoiabaaDoorW.PrintLast Go.Proofs.YtbnmddippoiabaaDoorW.PrintMore
set_option linter.unusedVariables false
theorem rd_queued {l : List (S43)} {n : Nat} {x : S43} (h : l[n]? = some x) : rd_T43 l (n : Int) = x := by rw [rd_T43, Int.toNat_natCast, List.getD_eq_getElem?_getD, h]; rfl
theorem queuedj_ev (l t : List (S43)) (j : Nat) (x : S43) (hj : j < 1000) (next : ∃ r, Ev (fun k => offline_queued.l0 k l l.length ((j + 1 : Nat) : Int)) r ∧ (r.1 = 0 → r.2 = 0 ∧ ∀ q ∈ t, QOk q)) (b : Bool) :
    ∃ r, Ev (fun k => offline_queued.j1 k j l l.length j b x.f0 x.f1 x.f2 x.f3) r ∧ (r.1 = 0 → r.2 = 0 ∧ b = false ∧ ∀ q ∈ t, QOk q) := by
  have hw : wrap64 ((j : Int) + 1) = ((j + 1 : Nat) : Int) := by unfold wrap64; omega
  cases b with
  | true => exact ⟨(3, wrap64 (1000 + j)), Ev.one (fun k => by simp only [offline_queued.j1]; rw [if_pos trivial]), fun h => by cases h⟩
  | false =>
    obtain ⟨r, hr, h0⟩ := next
    have last : ∀ (g : Nat → Option (Int × Int)), (∀ k, g k = if (Go.bits .and .i64 x.f1 x.f2) = 0 then (offline_queued.l0 k l l.length (wrap64 ((j : Int) + 1))) else (some (5, wrap64 (1000 + (j : Int))))) → ∃ r, Ev g r ∧ (r.1 = 0 → r.2 = 0 ∧ false = false ∧ ∀ q ∈ t, QOk q) := fun g hg => by
      by_cases hb : Go.bits .and .i64 x.f1 x.f2 = 0
      · exact ⟨r, Ev.congr (fun k => by rw [hg, if_pos hb, hw]) hr, fun h => ⟨(h0 h).1, rfl, (h0 h).2⟩⟩
      · exact ⟨(5, wrap64 (1000 + j)), Ev.congr (fun k => by rw [hg, if_neg hb]) (Ev.now _), fun h => by cases h⟩
    cases h3 : x.f3 with
    | true =>
      by_cases hp : wrap64 (x.f1 + x.f2) > 0
      · exact ⟨(5, wrap64 (1000 + j)), Ev.one (fun k => by simp only [offline_queued.j1]; rw [if_neg (by simp), if_pos trivial, if_pos hp]), fun h => by cases h⟩
      · obtain ⟨r', hr', h'⟩ := last _ (fun k => rfl)
        exact ⟨r', Ev.step (fun k => by simp only [offline_queued.j1]; rw [if_neg (by simp), if_pos trivial, if_neg hp]) hr', h'⟩
    | false =>
      obtain ⟨r', hr', h'⟩ := last _ (fun k => rfl)
      exact ⟨r', Ev.step (fun k => by simp only [offline_queued.j1]; rw [if_neg (by simp), if_neg (by simp)]) hr', h'⟩
theorem queuedl_ev (l : List (S43)) (hl : l.length ≤ 100) : ∀ (t : List (S43)) (j : Nat), l.drop j = t → ∃ r, Ev (fun k => offline_queued.l0 k l l.length j) r ∧ (r.1 = 0 → r.2 = 0 ∧ ∀ q ∈ t, QOk q)
  | [], j, hd => by
    have hj : l.length ≤ j := List.drop_eq_nil_iff.1 hd
    exact ⟨(0, 0), Ev.one (fun k => by simp only [offline_queued.l0]; rw [if_neg (by omega)]), fun _ => ⟨rfl, fun _ h => by cases h⟩⟩
  | x :: t, j, hd => by
    have hx : l[j]? = some x := by rw [← List.head?_drop, hd]; rfl
    have hj := (List.getElem?_eq_some_iff.1 hx).1
    have hd' : l.drop (j + 1) = t := by rw [← List.tail_drop, hd]; rfl
    have next := queuedl_ev l hl t (j + 1) hd'
    by_cases c1 : x.f1 < 0
    · obtain ⟨r, hr, h0⟩ := queuedj_ev l t j x (by omega) next true
      exact ⟨r, Ev.step (fun k => by simp only [offline_queued.l0]; rw [if_pos (by omega), if_pos (by omega), if_pos (by omega), rd_queued hx, if_pos c1]) hr, fun h => absurd (h0 h).2.1 (by decide)⟩
    · by_cases c2 : x.f1 > 63
      · obtain ⟨r, hr, h0⟩ := queuedj_ev l t j x (by omega) next true
        exact ⟨r, Ev.step (fun k => by simp only [offline_queued.l0]; rw [if_pos (by omega), if_pos (by omega), if_pos (by omega), rd_queued hx, if_neg c1, if_pos c2]) hr, fun h => absurd (h0 h).2.1 (by decide)⟩
      · by_cases c3 : x.f2 < 0
        · obtain ⟨r, hr, h0⟩ := queuedj_ev l t j x (by omega) next true
          exact ⟨r, Ev.step (fun k => by simp only [offline_queued.l0]; rw [if_pos (by omega), if_pos (by omega), if_pos (by omega), rd_queued hx, if_neg c1, if_neg c2, if_pos c3]) hr, fun h => absurd (h0 h).2.1 (by decide)⟩
        · obtain ⟨r, hr, h0⟩ := queuedj_ev l t j x (by omega) next (decide (x.f2 > 63))
          refine ⟨r, Ev.step (fun k => by simp only [offline_queued.l0]; rw [if_pos (by omega), if_pos (by omega), if_pos (by omega), rd_queued hx, if_neg c1, if_neg c2, if_neg c3]) hr, fun h => ?_⟩
          obtain ⟨h1, h2, h3⟩ := h0 h
          have c4 := of_decide_eq_false h2
          refine ⟨h1, fun q hq => ?_⟩
          rcases List.mem_cons.1 hq with e | hq
          · rw [e]; exact ⟨by omega, by omega, by omega, by omega⟩
          · exact h3 q hq
theorem queued_ev (l : List (S43)) : ∃ r, Ev (fun k => offline_queued.f k l) r ∧ (r.1 = 0 → r.2 = 0 ∧ l.length ≤ 100 ∧ ∀ q ∈ l, QOk q) := by
  by_cases h : (l.length : Int) > 100
  · exact ⟨(2, -2), Ev.congr (fun k => by unfold offline_queued.f; rw [if_pos h]) (Ev.now _), fun h => by cases h⟩
  · obtain ⟨r, hr, h0⟩ := queuedl_ev l (by omega) l 0 rfl
    exact ⟨r, Ev.congr (fun k => by unfold offline_queued.f; rw [if_neg h]; rfl) hr, fun h1 => ⟨(h0 h1).1, by omega, (h0 h1).2⟩⟩
theorem box_wf {a0 a1 a2 : Int} {l3 : List (S55)} {l4 : List (S75)} (hw : WFBox l3 l4) {k : Nat} (h : mailbox_Validate.f k a0 a1 a2 l3 l4 = some (0, 0)) : (Lit.int .i64 a1).wf = true := by
  obtain ⟨v, hv, h1, h2⟩ := box_ev (a0 := a0) (a1 := a1) (a2 := a2) hw
  have e := Ev.uniq hv (Ev.of (fun k => mailbox_Validate.mono _ _ _ _ _ k) h)
  have hb := h2.1 (by rw [e])
  have hs0 := hb.s0
  have hs1 := hb.s1
  exact WalkArith.wf_i64 ⟨by omega, by omega⟩
theorem box_sized {a0 a1 a2 : Int} {l3 : List (S55)} {l4 : List (S75)} (hw : WFBox l3 l4) (hb : BoxOk a0 a1 a2 l3 l4) (ql : List (S43)) (hq : ql.length ≤ 100) : msized l3 l4 ql := by
  refine ⟨Nat.le_trans hb.n3 (by omega), Nat.le_trans hb.n4 (by omega), by omega, fun e he => ?_⟩
  obtain ⟨i, hi⟩ := List.mem_iff_getElem?.1 he
  have := msgOk_small (hw.2.2 e he) (hb.e i e hi).2.2.2.2.2.2.2.2
  omega
/-- What Merge answers. -/
theorem merge_ev {a0 a1 a2 : Int} {l3 : List (S55)} {l4 : List (S75)} (hw : WFBox l3 l4) (base : Int) (ql : List (S43)) : ∃ (r0 r1 r2 : Int) (r3 : List (S55)) (r4 : List (S75)) (sl : List (S68)) (s5 s6 : Int), Ev (fun k => offline_Merge.f k a0 a1 a2 l3 l4 base ql) (r0, r1, r2, r3, r4, sl, s5, s6) ∧
    (s5 = 0 → BoxOk a0 a1 a2 l3 l4 ∧ 1 ≤ base ∧ base ≤ a1 ∧ ql.length ≤ 100 ∧ (∀ q ∈ ql, QOk q) ∧ (mergeAll base ql a0 a1 a2 l3 l4 []).1 = (r0, r1, r2, r3, r4) ∧ (mergeAll base ql a0 a1 a2 l3 l4 []).2 = sl) ∧ WFBox r3 r4 := by
  have wn : WFBox ([] : List (S55)) ([] : List (S75)) := ⟨by simp, by simp, fun _ h => by cases h⟩
  obtain ⟨v, hv, h1, h2⟩ := box_ev (a0 := a0) (a1 := a1) (a2 := a2) hw
  by_cases e1 : v = (0, 0)
  · have hb := h2.1 (by rw [e1])
    by_cases e2 : base < 1 ∨ a1 < base
    · exact ⟨0, 0, 0, [], [], [], 3, -4, Ev.bind hv (f := fun k t => _) (Ev.congr (fun k => by rw [if_pos e1, if_pos e2]) (Ev.now _)), (fun h => by cases h), wn⟩
    · obtain ⟨u, hu, h3⟩ := queued_ev ql
      by_cases e3 : u = (0, 0)
      · obtain ⟨-, h4, h5⟩ := h3 (by rw [e3])
        have hs := box_sized hw hb ql h4
        have hk := merge_keeps base ql a0 a1 a2 l3 l4 [] _ _ _ _ _ h5 hb hw rfl
        exact ⟨_, _, _, _, _, _, 0, 0, Ev.bind hv (f := fun k t => _) (Ev.congr (fun k => by rw [if_pos e1, if_neg e2]) (Ev.bind hu (f := fun k (u : Int × Int) => if u = (0, 0) then (if msized l3 l4 ql then some ((mergeAll base ql a0 a1 a2 l3 l4 []).1.1, (mergeAll base ql a0 a1 a2 l3 l4 []).1.2.1, (mergeAll base ql a0 a1 a2 l3 l4 []).1.2.2.1, (mergeAll base ql a0 a1 a2 l3 l4 []).1.2.2.2.1, (mergeAll base ql a0 a1 a2 l3 l4 []).1.2.2.2.2, (mergeAll base ql a0 a1 a2 l3 l4 []).2, (0 : Int), (0 : Int)) else none) else some (0, 0, 0, [], [], [], u.1, u.2)) (Ev.congr (fun k => by rw [if_pos e3, if_pos hs]) (Ev.now _)))), fun _ => ⟨hb, by omega, by omega, h4, h5, rfl, rfl⟩, hk.2.1⟩
      · refine ⟨0, 0, 0, [], [], [], u.1, u.2, Ev.bind hv (f := fun k t => _) (Ev.congr (fun k => by rw [if_pos e1, if_neg e2]) (Ev.bind hu (f := fun k (u : Int × Int) => if u = (0, 0) then (if msized l3 l4 ql then some ((mergeAll base ql a0 a1 a2 l3 l4 []).1.1, (mergeAll base ql a0 a1 a2 l3 l4 []).1.2.1, (mergeAll base ql a0 a1 a2 l3 l4 []).1.2.2.1, (mergeAll base ql a0 a1 a2 l3 l4 []).1.2.2.2.1, (mergeAll base ql a0 a1 a2 l3 l4 []).1.2.2.2.2, (mergeAll base ql a0 a1 a2 l3 l4 []).2, (0 : Int), (0 : Int)) else none) else some (0, 0, 0, [], [], [], u.1, u.2)) (Ev.congr (fun k => by rw [if_neg e3]) (Ev.now _)))), fun h => absurd (Prod.ext h (h3 h).1) e3, wn⟩
  · exact ⟨0, 0, 0, [], [], [], v.1, v.2, Ev.bind hv (f := fun k t => _) (Ev.congr (fun k => by rw [if_neg e1]) (Ev.now _)), fun h => absurd (Prod.ext h (h1 h)) e1, wn⟩
end Go.Proofs.YtbnmddippoiabaaDoor.P
end
/- What others have added or changed is not removed by offline.Merge. -/
section
namespace Go.Proofs.YtbnmddippoiabaaDoor.P
open Go.RowKit Go.Proofs.YtbnmddippoiabaaDoorW.PrintWords Go.Proofs.YtbnmddippoiabaaDoorW.PrintLast Go.Proofs.YtbnmddippoiabaaDoorW.PrintMore
set_option linter.unusedVariables false
/-- A message that is there, and not the client's own. -/
def Safe (base : Int) (l3 : List (S55)) (own : List (Int × Int)) (u : Int) : Prop := ∃ (j : Nat) (y : S55), l3[j]? = some y ∧ y.f0 = u ∧ base ≤ y.f1 ∧ y.f1 ≠ ownAt own u
theorem ownAt_cons (v s : Int) (own : List (Int × Int)) (u : Int) : ownAt ((v, s) :: own) u = if v = u then s else ownAt own u := rfl
theorem safe_step {a0 a1 a2 : Int} {l3 : List (S55)} {l4 : List (S75)} {own : List (Int × Int)} {base : Int} {q : S43} (hb : BoxOk a0 a1 a2 l3 l4) (h : outcomeOf a1 l3 own base q = 0) (hs : base ≤ a1) (ho : ∀ u, ownAt own u < a1) :
    base ≤ (doOf a0 a1 a2 l3 l4 q).2.1 ∧ (∀ u, ownAt (ownNext a0 a1 a2 l3 l4 own base q) u < (doOf a0 a1 a2 l3 l4 q).2.1) ∧ ∀ u, Safe base l3 own u → Safe base (doOf a0 a1 a2 l3 l4 q).2.2.2.1 (ownNext a0 a1 a2 l3 l4 own base q) u := by
  have hs1 := hb.s1
  have hs0 := hb.s0
  have w1 : wrap64 (a1 + 1) = a1 + 1 := wrap_succ (by omega) (by omega)
  obtain ⟨hp, hm, hc⟩ := outcome_zero h
  obtain ⟨n, x, hn, hx, hx0⟩ := place_at hp
  rw [entry_is hn hx] at hc
  have hown : q.f3 = true ∨ ¬ a1 < (doOf a0 a1 a2 l3 l4 q).2.1 ∨ mineOf l3 own base q = false → ownNext a0 a1 a2 l3 l4 own base q = own := fun h => by
    unfold ownNext
    rw [if_neg (fun h9 => by rcases h with h | h | h; rw [h] at h9; exact absurd h9.2.1 (by decide); exact h h9.2.2; rw [h] at h9; exact absurd h9.1 (by decide))]
  cases hr : q.f3 with
  | true =>
    obtain ⟨-, e1, e3, -, -⟩ := doOf_remove (a0 := a0) (a1 := a1) (a2 := a2) (l4 := l4) hn hr
    rw [hown (.inl hr), e1, e3, w1]
    refine ⟨by omega, fun u => by have := ho u; omega, fun u hu => ?_⟩
    obtain ⟨j, y, hj, hy0, hy1, hy2⟩ := hu
    have hjn : j ≠ n := fun e => by
      subst e
      rw [hx] at hj
      injection hj with hj
      subst hj
      rw [hx0] at hy0
      subst hy0
      exact hc ⟨hr, hy1, hy2⟩
    have hjl := (List.getElem?_eq_some_iff.1 hj).1
    rcases Nat.lt_or_gt_of_ne hjn with hlt | hgt
    · exact ⟨j, y, by rw [List.getElem?_eraseIdx, if_pos hlt]; exact hj, hy0, hy1, hy2⟩
    · refine ⟨j - 1, y, ?_, hy0, hy1, hy2⟩
      rw [List.getElem?_eraseIdx, if_neg (by omega), show j - 1 + 1 = j by omega]
      exact hj
  | false =>
    have e := doOf_flags (a0 := a0) (a1 := a1) (a2 := a2) (l4 := l4) hn hx hr
    by_cases hf : flagsBy q x.f2 = x.f2
    · rw [if_pos hf] at e
      rw [hown (.inr (.inl (by rw [e]; exact Int.lt_irrefl _))), e]
      exact ⟨hs, ho, fun u hu => hu⟩
    · rw [if_neg hf] at e
      have hn1 : ∀ u, ownAt (ownNext a0 a1 a2 l3 l4 own base q) u = if mineOf l3 own base q = true ∧ q.f0 = u then a1 else ownAt own u := fun u => by
        unfold ownNext
        rw [e]
        by_cases hmm : mineOf l3 own base q = true
        · rw [if_pos ⟨hmm, hr, by show a1 < wrap64 (a1 + 1); omega⟩, ownAt_cons]
          by_cases hu : q.f0 = u
          · rw [if_pos hu, if_pos ⟨hmm, hu⟩]
          · rw [if_neg hu, if_neg (fun h => hu h.2)]
        · rw [if_neg (fun h => hmm h.1), if_neg (fun h => hmm h.1)]
      have e1 : (doOf a0 a1 a2 l3 l4 q).2.1 = a1 + 1 := by rw [e]; exact w1
      rw [e1]
      refine ⟨by omega, fun u => by rw [hn1]; have := ho u; split <;> omega, fun u hu => ?_⟩
      obtain ⟨j, y, hj, hy0, hy1, hy2⟩ := hu
      rw [e]
      have hnl := (List.getElem?_eq_some_iff.1 hx).1
      by_cases hjn : j = n
      · subst hjn
        rw [hx] at hj
        injection hj with hj
        subst hj
        refine ⟨j, _, List.getElem?_set_self hnl, hy0, hs, ?_⟩
        have hmm : mineOf l3 own base q = false := by
          unfold mineOf
          rw [entry_is hn hx, decide_eq_false (by omega), Bool.false_or, beq_eq_false_iff_ne]
          rw [← hx0, hy0]
          exact hy2
        rw [hn1, if_neg (fun h => by rw [hmm] at h; exact absurd h.1 (by decide))]
        have := ho u
        show a1 ≠ ownAt own u
        omega
      · refine ⟨j, y, by show (l3.set n _)[j]? = _; rw [List.getElem?_set_ne (fun e => hjn e.symm)]; exact hj, hy0, hy1, ?_⟩
        rw [hn1, if_neg (fun h => ?_)]
        · exact hy2
        · exact hjn (hb.uniq j n y x hj hx (by rw [hy0, hx0]; exact h.2.symm))
theorem merge_safe (base : Int) : ∀ (l : List (S43)) (a0 a1 a2 : Int) (l3 : List (S55)) (l4 : List (S75)) (own : List (Int × Int)), (∀ q ∈ l, QOk q) → BoxOk a0 a1 a2 l3 l4 → WFBox l3 l4 → base ≤ a1 → (∀ u, ownAt own u < a1) → ∀ u, Safe base l3 own u →
    ∃ (j : Nat) (y : S55), (mergeAll base l a0 a1 a2 l3 l4 own).1.2.2.2.1[j]? = some y ∧ y.f0 = u
  | [], a0, a1, a2, l3, l4, own, _, _, _, _, _, u, ⟨j, y, h1, h2, _⟩ => ⟨j, y, h1, h2⟩
  | q :: l, a0, a1, a2, l3, l4, own, hq, hb, hw, hs, ho, u, hu => by
    by_cases h : outcomeOf a1 l3 own base q = 0
    · rw [mergeAll_yes h]
      have nx := doOf_next hb hw (hq q List.mem_cons_self) h
      obtain ⟨h1, h2, h3⟩ := safe_step (q := q) hb h hs ho
      exact merge_safe base l _ _ _ _ _ _ (fun x hx => hq x (List.mem_cons_of_mem _ hx)) nx.ok nx.wf h1 h2 u (h3 u hu)
    · rw [mergeAll_no h]
      exact merge_safe base l a0 a1 a2 l3 l4 own (fun x hx => hq x (List.mem_cons_of_mem _ hx)) hb hw hs ho u hu
end Go.Proofs.YtbnmddippoiabaaDoor.P
end
/- Functions of this seat as Lean functions, and that the Go code comes to their answers: written by a program of this session's. -/
section
namespace Go.Proofs.YtbnmddippoiabaaDoor.P
open Go.RowKit Go.Proofs.YtbnmddippoiabaaDoorW.PrintWords Go.Proofs.YtbnmddippoiabaaDoorW.PrintLast Go.Proofs.YtbnmddippoiabaaDoorW.PrintMore
attribute [local go_sem] max2_int min2_int max_two min_two max_three min_three max_four min_four   -- for this text's walks alone
set_option linter.unusedVariables false
set_option linter.unusedSimpArgs false

/-! ### posthouseref8_Place: function 18 -/
def posthouseref8_Place.l0 : Nat → Int → Int → Int → Int → Int → List (S55) → List (S75) → Option (Int)
  | 0, _, _, _, _, _, _, _ => none
  | k + 1, x1, x5, x157000, x157001, x157002, x157003, x157004 => if x5 < (x157003.length : Int) then (if 0 ≤ x5 then (if ((rd_T55 x157003 x5).f0) = x1 then (some x5) else (posthouseref8_Place.l0 k x1 (wrap64 (x5 + 1)) x157000 x157001 x157002 x157003 x157004)) else (none)) else (some (-1))
def posthouseref8_Place.f (k : Nat) (a0_0 : Int) (a0_1 : Int) (a0_2 : Int) (l0_3 : List (S55)) (l0_4 : List (S75)) (a1 : Int) : Option (Int) := posthouseref8_Place.l0 k a1 0 a0_0 a0_1 a0_2 l0_3 l0_4
theorem posthouseref8_Place.mono_l : ∀ k, (∀ y0 y1 y2 y3 y4 y5 y6, LeO (posthouseref8_Place.l0 k y0 y1 y2 y3 y4 y5 y6) (posthouseref8_Place.l0 (k + 1) y0 y1 y2 y3 y4 y5 y6))
  | 0 => fun _ _ _ _ _ _ _ r h => by simp [posthouseref8_Place.l0] at h
  | k + 1 => by
    have ih0 := posthouseref8_Place.mono_l k
    · intro y0 y1 y2 y3 y4 y5 y6
      unfold posthouseref8_Place.l0
      repeat' first
      | (with_reducible exact ih0 _ _ _ _ _ _ _)
      | (with_reducible exact LeO.refl _)
      | (with_reducible exact LeO.none _)
      | (with_reducible refine LeO.ite ?_ ?_)
      | (with_reducible refine LeO.bind ?_ (fun _ => ?_))
      | exact ih0 _ _ _ _ _ _ _
      | exact LeO.none _
      | refine LeO.ite ?_ ?_
      | refine LeO.bind ?_ (fun _ => ?_)
theorem posthouseref8_Place.mono : ∀ a0 a1 a2 a3 a4 a5 k, LeO (posthouseref8_Place.f k a0 a1 a2 a3 a4 a5) (posthouseref8_Place.f (k + 1) a0 a1 a2 a3 a4 a5) := by
  intro a0 a1 a2 a3 a4 a5 k
  have ih0 := posthouseref8_Place.mono_l k
  unfold posthouseref8_Place.f
  repeat' first
      | (with_reducible exact ih0 _ _ _ _ _ _ _)
      | (with_reducible exact LeO.refl _)
      | (with_reducible exact LeO.none _)
      | (with_reducible refine LeO.ite ?_ ?_)
      | (with_reducible refine LeO.bind ?_ (fun _ => ?_))
      | exact ih0 _ _ _ _ _ _ _
      | exact LeO.none _
      | refine LeO.ite ?_ ?_
      | refine LeO.bind ?_ (fun _ => ?_)
set_option maxHeartbeats 8000000 in
set_option maxRecDepth 100000 in
theorem posthouseref8_Place.calls (k : Nat) (a0_0 : Int) (a0_1 : Int) (a0_2 : Int) (A0_3 : Option Addr) (c0_3 : Nat) (l0_3 : List (S55)) (A0_4 : Option Addr) (c0_4 : Nat) (l0_4 : List (S75)) (a1 : Int) (r : Int) (w : World) (hr0_3 : Kd.C k55 w A0_3 l0_3.length l0_3) (hc0_3 : l0_3.length ≤ c0_3) (hr0_4 : Kd.C k75 w A0_4 l0_4.length l0_4) (hc0_4 : l0_4.length ≤ c0_4) (h : posthouseref8_Place.f k a0_0 a0_1 a0_2 l0_3 l0_4 a1 = some r) :
    Calls Tryd.prog 18 #[.agg #[.int .i64 a0_0, .int .i64 a0_1, .int .i64 a0_2, .slice A0_3 l0_3.length c0_3, .slice A0_4 l0_4.length c0_4], .int .i64 a1] w fun e w' => e = .returned (.int .i64 r) ∧ Below w.heap.size w w' := by
  have hu25 := Tryd.underlying25
  have HR0_3 := Aside0.mk hr0_3
  have HC0_3 := Aside0.mk hc0_3
  clear hr0_3 hc0_3
  have HR0_4 := Aside0.mk hr0_4
  have HC0_4 := Aside0.mk hc0_4
  clear hr0_4 hc0_4
  have HB := Aside0.mk (Below.refl w.heap.size w)
  have H : (posthouseref8_Place.l0 k a1 0 a0_0 a0_1 a0_2 l0_3 l0_4) = some r := h
  clear h
  have H' := Aside0.mk H
  clear H
  go_enter Tryd.func18, Tryd.ntmps18
  go_wp2_with (first | ((with_reducible refine gate_dst (N := 2) rfl ?_); refine box_event ?hg (N := 2) ?hd (cs := #[.int .i64 a0_0, .int .i64 a0_1, .int .i64 a0_2, .slice A0_3 l0_3.length c0_3, .slice A0_4 l0_4.length c0_4]) (t := 25) ?hr ?_; (case hd => rfl); (case hg => rfl); (case hr => first | (go_simp; done) | (go_simp; rfl)); intro gb156 hg w3 hbox hb; have n0_ := Aside0.mk (below_step (by repeat (first | (with_reducible first | exact HB.out | apply below_alloc | apply pw_below_drewN | apply below_drew1) | exact HB.out)) hb); have n1_ := Aside0.mk (hbox); have n2_ := Aside0.mk ((by rw [hg]; exact (below_size (by repeat (first | (with_reducible first | exact HB.out | apply below_alloc | apply pw_below_drewN | apply below_drew1) | exact HB.out))) : w.heap.size ≤ gb156)); have n3_ := Aside0.mk ((by rw [hg]; exact (below_size (by repeat (first | (with_reducible first | exact HB.out | apply below_alloc | apply pw_below_drewN | apply below_drew1) | exact HB.out))) : w.heap.size ≤ gb156)); clear HB; have HB := n0_; have BK156 := n1_; have GW156 := n2_; have GE156 := n3_; clear n0_ n1_ n2_ n3_; clear hb hbox hg))
  go_loopg [5] k (fun kq v5 w' => ∃ (x5_1 : Int), v5 = .int .i64 x5_1 ∧ Aside0 (posthouseref8_Place.l0 kq a1 x5_1 a0_0 a0_1 a0_2 l0_3 l0_4 = some r) ∧ Aside0 (kq ≤ k) ∧ Aside0 (w'.heap[gb156]? = some (.cells #[.int .i64 a0_0, .int .i64 a0_1, .int .i64 a0_2, (.slice A0_3 l0_3.length c0_3), (.slice A0_4 l0_4.length c0_4)] 25 (0, 0))) ∧ Aside0 (Below w.heap.size w w'))
  case atStart => exact ⟨(0), (by first | rfl | (simp; done) | (simp [*]; done)), H', ⟨Nat.le_refl _⟩, ⟨by (with_reducible repeat (first | refine blk_drewN ?_ _ | refine blk_drew ?_ | refine blk_alloc ?_ _)); exact BK156.out⟩, ⟨by repeat (first | (with_reducible first | exact HB.out | apply below_alloc | apply pw_below_drewN | apply below_drew1 | refine below_set ?_ GE156.out) | exact HB.out)⟩⟩
  case round =>
    clear H'
    try clear c1
    try clear p2
    obtain ⟨x5_1, rfl, HA, HK1, BK156, HB⟩ := hrel
    cases gk with
    | zero => exact absurd HA.out (by simp [posthouseref8_Place.l0])
    | succ k1 =>
      have H := HA.out
      clear HA
      simp only [posthouseref8_Place.l0] at H
      by_cases c4 : x5_1 < (l0_3.length : Int)
      · rw [if_pos c4] at H
        have c4b0 : decide (x5_1 < (l0_3.length : Int)) = true := decide_eq_true c4
        clear c4
        by_cases c5 : 0 ≤ x5_1
        · rw [if_pos c5] at H
          have c5b0 : decide (0 ≤ x5_1) = true := decide_eq_true c5
          clear c5
          by_cases c6 : ((rd_T55 l0_3 x5_1).f0) = a1
          · rw [if_pos c6] at H
            have c6b0 : (((rd_T55 l0_3 x5_1).f0) == a1) = true := beq_iff_eq.mpr c6
            have c6b1 : (((rd_T55 l0_3 x5_1).f0) != a1) = false := bne_eq_false_iff_eq.mpr c6
            clear c6
            obtain rfl := Option.some.inj H
            have hcz7_0 : wr.cell? ⟨gb156, 0, none⟩ = some (.int .i64 a0_0) := (blk_cell BK156.out 0).trans rfl
            have hcz7_1 : wr.cell? ⟨gb156, 1, none⟩ = some (.int .i64 a0_1) := (blk_cell BK156.out 1).trans rfl
            have hcz7_2 : wr.cell? ⟨gb156, 2, none⟩ = some (.int .i64 a0_2) := (blk_cell BK156.out 2).trans rfl
            have hcz7_3 : wr.cell? ⟨gb156, 3, none⟩ = some (.slice A0_3 l0_3.length c0_3) := (blk_cell BK156.out 3).trans rfl
            have hcz7_4 : wr.cell? ⟨gb156, 4, none⟩ = some (.slice A0_4 l0_4.length c0_4) := (blk_cell BK156.out 4).trans rfl
            have hfz7_0 := blk_frozen BK156.out 0
            have hfz7_1 := blk_frozen BK156.out 1
            have hfz7_2 := blk_frozen BK156.out 2
            have hfz7_3 := blk_frozen BK156.out 3
            have hfz7_4 := blk_frozen BK156.out 4
            have p157 : 0 ≤ (x5_1 : Int) := of_decide_eq_true (by first | (with_reducible assumption) | assumption)
            have q157 : x5_1 < (l0_3.length : Int) := of_decide_eq_true (by first | (with_reducible assumption) | assumption)
            obtain ⟨ad157, A157_4, c157_4, A157_5, c157_5, e157, hx157_0, hx157_1, hx157_2, hx157_3, hx157_4, hx157_5, hl157_4, hi157_4, hl157_5, hi157_5⟩ := at_T55 HR0_3.out x5_1 p157 q157
            cases e157
            replace hx157_0 := (HB.out.cell (World.block_lt_of_cell? w _ hx157_0)).trans hx157_0
            replace hx157_1 := (HB.out.cell (World.block_lt_of_cell? w _ hx157_1)).trans hx157_1
            replace hx157_2 := (HB.out.cell (World.block_lt_of_cell? w _ hx157_2)).trans hx157_2
            replace hx157_3 := (HB.out.cell (World.block_lt_of_cell? w _ hx157_3)).trans hx157_3
            replace hx157_4 := (HB.out.cell (World.block_lt_of_cell? w _ hx157_4)).trans hx157_4
            replace hx157_5 := (HB.out.cell (World.block_lt_of_cell? w _ hx157_5)).trans hx157_5
            have HR157_4 := Aside0.mk hi157_4
            have HC157_4 := Aside0.mk hl157_4
            clear hi157_4 hl157_4
            have HR157_5 := Aside0.mk hi157_5
            have HC157_5 := Aside0.mk hl157_5
            clear hi157_5 hl157_5
            replace p157 := eq_true p157
            replace q157 := eq_true q157
            go_wp2
            go_ret
            exact ⟨by first | rfl | (simp [errW_none, errW_some] <;> rfl) | (simp [*, errW_none, errW_some] <;> rfl), by repeat (first | (with_reducible first | exact HB.out | apply below_alloc | apply pw_below_drewN | apply below_drew1 | refine below_set ?_ GE156.out) | exact HB.out)⟩
          · rw [if_neg c6] at H
            have c6b0 : (((rd_T55 l0_3 x5_1).f0) == a1) = false := beq_eq_false_iff_ne.mpr c6
            have c6b1 : (((rd_T55 l0_3 x5_1).f0) != a1) = true := bne_iff_ne.mpr c6
            have H' := Aside0.mk H
            clear H
            have hcz8_0 : wr.cell? ⟨gb156, 0, none⟩ = some (.int .i64 a0_0) := (blk_cell BK156.out 0).trans rfl
            have hcz8_1 : wr.cell? ⟨gb156, 1, none⟩ = some (.int .i64 a0_1) := (blk_cell BK156.out 1).trans rfl
            have hcz8_2 : wr.cell? ⟨gb156, 2, none⟩ = some (.int .i64 a0_2) := (blk_cell BK156.out 2).trans rfl
            have hcz8_3 : wr.cell? ⟨gb156, 3, none⟩ = some (.slice A0_3 l0_3.length c0_3) := (blk_cell BK156.out 3).trans rfl
            have hcz8_4 : wr.cell? ⟨gb156, 4, none⟩ = some (.slice A0_4 l0_4.length c0_4) := (blk_cell BK156.out 4).trans rfl
            have hfz8_0 := blk_frozen BK156.out 0
            have hfz8_1 := blk_frozen BK156.out 1
            have hfz8_2 := blk_frozen BK156.out 2
            have hfz8_3 := blk_frozen BK156.out 3
            have hfz8_4 := blk_frozen BK156.out 4
            have p157 : 0 ≤ (x5_1 : Int) := of_decide_eq_true (by first | (with_reducible assumption) | assumption)
            have q157 : x5_1 < (l0_3.length : Int) := of_decide_eq_true (by first | (with_reducible assumption) | assumption)
            obtain ⟨ad157, A157_4, c157_4, A157_5, c157_5, e157, hx157_0, hx157_1, hx157_2, hx157_3, hx157_4, hx157_5, hl157_4, hi157_4, hl157_5, hi157_5⟩ := at_T55 HR0_3.out x5_1 p157 q157
            cases e157
            replace hx157_0 := (HB.out.cell (World.block_lt_of_cell? w _ hx157_0)).trans hx157_0
            replace hx157_1 := (HB.out.cell (World.block_lt_of_cell? w _ hx157_1)).trans hx157_1
            replace hx157_2 := (HB.out.cell (World.block_lt_of_cell? w _ hx157_2)).trans hx157_2
            replace hx157_3 := (HB.out.cell (World.block_lt_of_cell? w _ hx157_3)).trans hx157_3
            replace hx157_4 := (HB.out.cell (World.block_lt_of_cell? w _ hx157_4)).trans hx157_4
            replace hx157_5 := (HB.out.cell (World.block_lt_of_cell? w _ hx157_5)).trans hx157_5
            have HR157_4 := Aside0.mk hi157_4
            have HC157_4 := Aside0.mk hl157_4
            clear hi157_4 hl157_4
            have HR157_5 := Aside0.mk hi157_5
            have HC157_5 := Aside0.mk hl157_5
            clear hi157_5 hl157_5
            replace p157 := eq_true p157
            replace q157 := eq_true q157
            go_wp2
            go_roundg k1
            case measure => have := HK1.out; omega
            case rel => exact ⟨(wrap64 (x5_1 + 1)), (by first | rfl | (simp; done) | (simp [*]; done)), H', ⟨by have := HK1.out; omega⟩, ⟨by (with_reducible repeat (first | refine blk_drewN ?_ _ | refine blk_drew ?_ | refine blk_alloc ?_ _)); exact BK156.out⟩, ⟨by repeat (first | (with_reducible first | exact HB.out | apply below_alloc | apply pw_below_drewN | apply below_drew1 | refine below_set ?_ GE156.out) | exact HB.out)⟩⟩
        · rw [if_neg c5] at H
          exact absurd H (by simp)
      · rw [if_neg c4] at H
        have c4b0 : decide (x5_1 < (l0_3.length : Int)) = false := decide_eq_false c4
        clear c4
        obtain rfl := Option.some.inj H
        have hcz9_0 : wr.cell? ⟨gb156, 0, none⟩ = some (.int .i64 a0_0) := (blk_cell BK156.out 0).trans rfl
        have hcz9_1 : wr.cell? ⟨gb156, 1, none⟩ = some (.int .i64 a0_1) := (blk_cell BK156.out 1).trans rfl
        have hcz9_2 : wr.cell? ⟨gb156, 2, none⟩ = some (.int .i64 a0_2) := (blk_cell BK156.out 2).trans rfl
        have hcz9_3 : wr.cell? ⟨gb156, 3, none⟩ = some (.slice A0_3 l0_3.length c0_3) := (blk_cell BK156.out 3).trans rfl
        have hcz9_4 : wr.cell? ⟨gb156, 4, none⟩ = some (.slice A0_4 l0_4.length c0_4) := (blk_cell BK156.out 4).trans rfl
        have hfz9_0 := blk_frozen BK156.out 0
        have hfz9_1 := blk_frozen BK156.out 1
        have hfz9_2 := blk_frozen BK156.out 2
        have hfz9_3 := blk_frozen BK156.out 3
        have hfz9_4 := blk_frozen BK156.out 4
        go_wp2
        go_ret
        exact ⟨by first | rfl | (simp [errW_none, errW_some] <;> rfl) | (simp [*, errW_none, errW_some] <;> rfl), by repeat (first | (with_reducible first | exact HB.out | apply below_alloc | apply pw_below_drewN | apply below_drew1 | refine below_set ?_ GE156.out) | exact HB.out)⟩

end Go.Proofs.YtbnmddippoiabaaDoor.P
end
/- Functions of this seat as Lean functions, and that the Go code comes to their answers: written by a program of this session's. -/
section
namespace Go.Proofs.YtbnmddippoiabaaDoor.P
open Go.RowKit Go.Proofs.YtbnmddippoiabaaDoorW.PrintWords Go.Proofs.YtbnmddippoiabaaDoorW.PrintLast Go.Proofs.YtbnmddippoiabaaDoorW.PrintMore
attribute [local go_sem] max2_int min2_int max_two min_two max_three min_three max_four min_four   -- for this text's walks alone
set_option linter.unusedVariables false
set_option linter.unusedSimpArgs false

/-! ### posthouselaw8_letter: function 50 -/
def posthouselaw8_letter.f (a0 : ByteArray) : Option ((List (S98)) × List Int) := some ([⟨⟨#[83, 117, 98, 106, 101, 99, 116]⟩, a0⟩], [120, 13, 10])
set_option maxRecDepth 100000 in
theorem posthouselaw8_letter.calls (a0 : ByteArray) (r1 : List (S98)) (r2 : List Int) (w : World) (h : posthouselaw8_letter.f a0 = some (r1, r2)) :
    Calls Tryd.prog 50 #[.string a0] w fun e w' => ∃ v0_ v1_ : Value, e = .returned (.agg #[v0_, v1_]) ∧ Kd.V k98 98 w' w.heap.size (fun k_ => (w.heap.size ≤ k_)) v0_ r1 ∧ Kd.V (Kd.int .u8) 5 w' w.heap.size (fun k_ => (w.heap.size ≤ k_)) v1_ r2 ∧ Below w.heap.size w w' := by
  obtain ⟨rfl, rfl⟩ : [⟨⟨#[83, 117, 98, 106, 101, 99, 116]⟩, a0⟩] = r1 ∧ [120, 13, 10] = r2 := by simpa [posthouselaw8_letter.f] using h
  have hu := Tryd.underlying53
  have hu2 := Tryd.underlying98
  have kc : ∀ (W : World) (o1 o2 : Obj) (C : Array Value) (n c : Nat), Sem.run Tryd.prog (convert 51 51 (.slice (some ⟨W.heap.size + 1 + 1, 0, none⟩) n c)) (((W.alloc o1).alloc o2).alloc (.cells C 5)) = .ok (.slice (some ⟨W.heap.size + 1 + 1, 0, none⟩) n c) (((W.alloc o1).alloc o2).alloc (.cells C 5 (C.size, C.size + 1))) := fun W o1 o2 C n c => by
    have := Lib.run_convert_bytes_const (P := Tryd.prog) ((W.alloc o1).alloc o2) 51 5 C n c Tryd.underlying51 Tryd.underlying5
    simpa using this
  go_enter Tryd.func50, Tryd.ntmps50
  go_wp2
  refine bodyPost_ret (v := .agg #[.slice (some ⟨w.heap.size + 1, 0, none⟩) 1 1, .slice (some ⟨w.heap.size + 1 + 1, 0, none⟩) 3 3]) (by simp [results, Tryd.results50, go_sem]) rfl ⟨_, _, rfl, ?_, ?_, ?_⟩
  · exact V_one (blk_later (blk_at1 _ _) _) rfl (by omega) rfl (k98_mkF _ _ _) (Nat.le_refl _)
  · exact V_nums (xs := [120, 13, 10]) (blk_at2 _ _ _) (by omega) (fun j hj => by match j, hj with | 0, _ => rfl | 1, _ => rfl | 2, _ => rfl) (Nat.le_refl _) (by simp)
  · exact below_alloc (below_alloc (below_alloc (Below.refl _ _) _) _) _


end Go.Proofs.YtbnmddippoiabaaDoor.P
end
/- Functions of this seat as Lean functions, and that the Go code comes to their answers: written by a program of this session's. -/
section
namespace Go.Proofs.YtbnmddippoiabaaDoor.P
open Go.RowKit Go.Proofs.YtbnmddippoiabaaDoorW.PrintWords Go.Proofs.YtbnmddippoiabaaDoorW.PrintLast Go.Proofs.YtbnmddippoiabaaDoorW.PrintMore
attribute [local go_sem] max2_int min2_int max_two min_two max_three min_three max_four min_four   -- for this text's walks alone
set_option linter.unusedVariables false
set_option linter.unusedSimpArgs false

/-! ### posthouselaw8_three: function 30 -/
def posthouselaw8_three.f : Option (Int × Int × Int × (List (S55)) × (List (S75))) := (posthouselaw8_letter.f (⟨#[98]⟩ : ByteArray)).bind fun b => some (3, 5, 0, [⟨2, 3, 1, 9, ⟨b.1, b.2⟩⟩], [⟨1, 4⟩])
set_option maxRecDepth 100000 in
theorem posthouselaw8_three.calls (r1 : Int) (r2 : Int) (r3 : Int) (r4 : List (S55)) (r5 : List (S75)) (w : World) (h : posthouselaw8_three.f = some (r1, r2, r3, r4, r5)) :
    Calls Tryd.prog 30 #[] w fun e w' => ∃ v3_ v4_ : Value, e = .returned (.agg #[.int .i64 r1, .int .i64 r2, .int .i64 r3, v3_, v4_]) ∧ Kd.V k55 55 w' w.heap.size (fun k_ => (w.heap.size ≤ k_)) v3_ r4 ∧ Kd.V k75 75 w' w.heap.size (fun k_ => (w.heap.size ≤ k_)) v4_ r5 ∧ Below w.heap.size w w' := by
  obtain ⟨⟨t1, t2⟩, ht, h⟩ := Option.bind_eq_some_iff.1 h
  simp only [Option.some.injEq, Prod.mk.injEq] at h
  obtain ⟨rfl, rfl, rfl, rfl, rfl⟩ := h
  have hu := Tryd.underlying25
  have hu2 := Tryd.underlying55
  have hu3 := Tryd.underlying75
  go_enter Tryd.func30, Tryd.ntmps30
  go_wp2_with fail
  refine (posthouselaw8_letter.calls _ t1 t2 _ ht).mono ?_
  rintro e w1 ⟨_, _, rfl, ⟨A0, c0, rfl, l0, f0⟩, ⟨A1, c1, rfl, l1, f1⟩, hb⟩
  have hB := blk_call (blk_at _) hb
  have hz := hb.size
  simp only [World.size_alloc] at hz f0 f1
  have kc := bc2 hB
  have kf := bf2 hB
  replace hB := Aside0.mk hB
  replace f0 := Aside0.mk f0
  replace f1 := Aside0.mk f1
  replace hb := Aside0.mk hb
  go_wp2
  have hlt : w.heap.size ≠ w1.heap.size := by omega
  have hlt2 : w.heap.size ≠ w1.heap.size + 1 := by omega
  refine bodyPost_ret (v := .agg #[.int .i64 3, .int .i64 5, .int .i64 0, .slice (some ⟨w1.heap.size, 0, none⟩) 1 1, .slice (some ⟨w1.heap.size + 1, 0, none⟩) 1 1]) (by simp [results, Tryd.results30, go_sem, kc]) rfl ⟨_, _, rfl, ?_, ?_, ?_⟩
  · have hk : ∀ k, w.heap.size + 1 ≤ k → k ≠ w.heap.size := fun k hk => by omega
    exact V_one (blk_far (blk_far (blk_far (blk_far (blk_far (blk_later (blk_at _) _) hlt.symm _) hlt.symm _) hlt.symm _) hlt.symm _) hlt.symm _) rfl (by omega) rfl (k55_mkF _ _ (⟨2, 3, 1, 9, ⟨t1, t2⟩⟩ : S55) l0 (Kd.F_mono (Kd.F_far (Kd.F_far (Kd.F_far (Kd.F_far (Kd.F_far (Kd.F_alloc (Kd.F_alloc f0.out _) _) hk _) hk _) hk _) hk _) hk _) (fun k hk => by omega)) l1 (Kd.F_mono (Kd.F_far (Kd.F_far (Kd.F_far (Kd.F_far (Kd.F_far (Kd.F_alloc (Kd.F_alloc f1.out _) _) hk _) hk _) hk _) hk _) hk _) (fun k hk => by omega))) (Nat.le_refl _)
  · exact V_one (blk_far (blk_far (blk_far (blk_far (blk_far (blk_at1 _ _) hlt2.symm _) hlt2.symm _) hlt2.symm _) hlt2.symm _) hlt2.symm _) rfl (by omega) rfl (k75_mkF _ _ _) (Nat.le_refl _)
  · have := below_then (below_alloc (Below.refl _ w) _) (by simp) hb.out
    exact (below_set (below_set (below_set (below_set (below_set (below_alloc (below_alloc this _) _) (Nat.le_refl _)) (Nat.le_refl _)) (Nat.le_refl _)) (Nat.le_refl _)) (Nat.le_refl _))


end Go.Proofs.YtbnmddippoiabaaDoor.P
end
