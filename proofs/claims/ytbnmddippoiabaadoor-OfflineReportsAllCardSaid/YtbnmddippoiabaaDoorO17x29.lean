/- Several texts in one, each in its own section. The last: What offline.Merge answers: plain Lean over the printed functions. -/
import Derived.Test.YtbnmddippoiabaaDoorO17x25
import Derived.Test.YtbnmddippoiabaaDoorO17x28
import Derived.Test.YtbnmddippoiabaaDoorO17x26
/- What offline.Merge does to a mailbox: plain Lean over mergeAll. -/
section
namespace Go.Proofs.YtbnmddippoiabaaDoor.P
open Go.RowKit Go.Proofs.YtbnmddippoiabaaDoorW.PrintWords Go.Proofs.YtbnmddippoiabaaDoorW.PrintLast Go.Proofs.YtbnmddippoiabaaDoorW.PrintMore
set_option linter.unusedVariables false
/-- A queued change is fine. -/
structure QOk (q : S43) : Prop where
  s0 : 0 ≤ q.f1
  s1 : q.f1 ≤ 63
  c0 : 0 ≤ q.f2
  c1 : q.f2 ≤ 63
theorem kind_two (q : S43) : queuedKind q = 2 ∨ queuedKind q = 3 := by
  unfold queuedKind
  split
  · exact .inr rfl
  · exact .inl rfl
theorem QOk.change {q : S43} (h : QOk q) : ChangeOk (queuedKind q) q.f0 q.f1 q.f2 0 [] [] :=
  ⟨.inr (kind_two q), h.s0, h.s1, h.c0, h.c1, by omega, by omega, fun he => by rcases kind_two q with h' | h' <;> omega, by simp⟩
theorem outcome_zero {a1 : Int} {l3 : List (S55)} {own : List (Int × Int)} {base : Int} {q : S43} (h : outcomeOf a1 l3 own base q = 0) : 0 ≤ placeFrom l3 q.f0 0 ∧ a1 ≠ 1000000 ∧ ¬ (q.f3 = true ∧ base ≤ (entryOf l3 q).f1 ∧ (entryOf l3 q).f1 ≠ ownAt own q.f0) := by
  unfold outcomeOf at h
  split at h
  · cases h
  · split at h
    · cases h
    · split at h
      · cases h
      · rename_i h1 h2 h3
        exact ⟨by omega, h2, h3⟩
theorem possible_of {a0 a1 : Int} {l3 : List (S55)} {own : List (Int × Int)} {base : Int} {q : S43} (h : outcomeOf a1 l3 own base q = 0) : PossibleAt a0 a1 l3 (queuedKind q) q.f0 := by
  obtain ⟨h1, h2, -⟩ := outcome_zero h
  exact ⟨h2, fun he => by rcases kind_two q with h' | h' <;> omega, fun _ => h1⟩
theorem wf_nil : WFMsg ([] : List (S98)) ([] : List Int) := ⟨by simp, by simp, fun _ h => by cases h⟩
section
variable {a0 a1 a2 : Int} {l3 : List (S55)} {l4 : List (S75)}
theorem doOf_next {q : S43} {own : List (Int × Int)} {base : Int} (hb : BoxOk a0 a1 a2 l3 l4) (hw : WFBox l3 l4) (hq : QOk q) (h : outcomeOf a1 l3 own base q = 0) :
    Next a0 a1 a2 l3 l4 (doOf a0 a1 a2 l3 l4 q).1 (doOf a0 a1 a2 l3 l4 q).2.1 (doOf a0 a1 a2 l3 l4 q).2.2.1 (doOf a0 a1 a2 l3 l4 q).2.2.2.1 (doOf a0 a1 a2 l3 l4 q).2.2.2.2 :=
  do_next hb hq.change (possible_of h) hw wf_nil rfl
theorem entry_is {q : S43} {n : Nat} {x : S55} (hn : placeFrom l3 q.f0 0 = n) (hx : l3[n]? = some x) : entryOf l3 q = x := by
  unfold entryOf
  rw [hn, Int.toNat_natCast, List.getD_eq_getElem?_getD, hx]
  rfl
/-- The flags behind a change. -/
def flagsBy (q : S43) (f : Int) : Int := Go.bits .or .i64 (Go.bits .andNot .i64 f q.f2) q.f1
theorem doOf_remove {q : S43} {n : Nat} (hn : placeFrom l3 q.f0 0 = n) (h : q.f3 = true) : (doOf a0 a1 a2 l3 l4 q).1 = a0 ∧ (doOf a0 a1 a2 l3 l4 q).2.1 = wrap64 (a1 + 1) ∧ (doOf a0 a1 a2 l3 l4 q).2.2.2.1 = l3.eraseIdx n ∧
    (doOf a0 a1 a2 l3 l4 q).2.2.1 = (if 400 < (l4 ++ [(⟨q.f0, a1⟩ : S75)]).length then ((l4 ++ [(⟨q.f0, a1⟩ : S75)]).getD 0 z75).f1 else a2) ∧
    (doOf a0 a1 a2 l3 l4 q).2.2.2.2 = (if 400 < (l4 ++ [(⟨q.f0, a1⟩ : S75)]).length then (l4 ++ [(⟨q.f0, a1⟩ : S75)]).drop 1 else l4 ++ [(⟨q.f0, a1⟩ : S75)]) := by
  unfold doOf queuedKind mailbox_Do.m
  rw [if_pos h, if_neg (show ¬ (3 : Int) = 1 by decide), if_neg (show ¬ (3 : Int) = 2 by decide), hn, Int.toNat_natCast]
  exact ⟨rfl, rfl, rfl, rfl, rfl⟩
theorem doOf_flags {q : S43} {n : Nat} {x : S55} (hn : placeFrom l3 q.f0 0 = n) (hx : l3[n]? = some x) (h : q.f3 = false) :
    doOf a0 a1 a2 l3 l4 q = if flagsBy q x.f2 = x.f2 then (a0, a1, a2, l3, l4) else (a0, wrap64 (a1 + 1), a2, l3.set n ⟨x.f0, a1, flagsBy q x.f2, x.f3, x.f4⟩, l4) := by
  have he : l3.getD (placeFrom l3 q.f0 0).toNat z55 = x := entry_is hn hx
  unfold doOf queuedKind mailbox_Do.m
  rw [if_neg (show ¬ q.f3 = true by rw [h]; simp), if_neg (show ¬ (2 : Int) = 1 by decide), if_pos rfl, he, hn, Int.toNat_natCast]
  rfl
end
/-- A step leads on. -/
theorem mergeAll_yes {base : Int} {q : S43} {l : List (S43)} {a0 a1 a2 : Int} {l3 : List (S55)} {l4 : List (S75)} {own : List (Int × Int)} (h : outcomeOf a1 l3 own base q = 0) :
    (mergeAll base (q :: l) a0 a1 a2 l3 l4 own).1 = (mergeAll base l (doOf a0 a1 a2 l3 l4 q).1 (doOf a0 a1 a2 l3 l4 q).2.1 (doOf a0 a1 a2 l3 l4 q).2.2.1 (doOf a0 a1 a2 l3 l4 q).2.2.2.1 (doOf a0 a1 a2 l3 l4 q).2.2.2.2 (ownNext a0 a1 a2 l3 l4 own base q)).1 := by rw [mergeAll, if_pos h]
theorem mergeAll_no {base : Int} {q : S43} {l : List (S43)} {a0 a1 a2 : Int} {l3 : List (S55)} {l4 : List (S75)} {own : List (Int × Int)} (h : ¬ outcomeOf a1 l3 own base q = 0) :
    (mergeAll base (q :: l) a0 a1 a2 l3 l4 own).1 = (mergeAll base l a0 a1 a2 l3 l4 own).1 := by rw [mergeAll, if_neg h]
theorem mergeAll_length (base : Int) : ∀ (l : List (S43)) (a0 a1 a2 : Int) (l3 : List (S55)) (l4 : List (S75)) (own : List (Int × Int)), (mergeAll base l a0 a1 a2 l3 l4 own).2.length = l.length
  | [], _, _, _, _, _, _ => rfl
  | q :: l, a0, a1, a2, l3, l4, own => by
    rw [mergeAll]
    split
    · rw [List.length_cons, List.length_cons, mergeAll_length base l]
    · rw [List.length_cons, List.length_cons, mergeAll_length base l]
/-- The mailbox stays valid, and gets no message. -/
theorem merge_keeps (base : Int) : ∀ (l : List (S43)) (a0 a1 a2 : Int) (l3 : List (S55)) (l4 : List (S75)) (own : List (Int × Int)) (r0 r1 r2 : Int) (r3 : List (S55)) (r4 : List (S75)), (∀ q ∈ l, QOk q) → BoxOk a0 a1 a2 l3 l4 → WFBox l3 l4 → (mergeAll base l a0 a1 a2 l3 l4 own).1 = (r0, r1, r2, r3, r4) →
    BoxOk r0 r1 r2 r3 r4 ∧ WFBox r3 r4 ∧ r3.length ≤ l3.length ∧ a1 ≤ r1
  | [], a0, a1, a2, l3, l4, own, r0, r1, r2, r3, r4, _, hb, hw, e => by
    simp only [mergeAll, Prod.mk.injEq] at e
    obtain ⟨rfl, rfl, rfl, rfl, rfl⟩ := e
    exact ⟨hb, hw, Nat.le_refl _, Int.le_refl _⟩
  | q :: l, a0, a1, a2, l3, l4, own, r0, r1, r2, r3, r4, hq, hb, hw, e => by
    by_cases h : outcomeOf a1 l3 own base q = 0
    · rw [mergeAll_yes h] at e
      have nx := doOf_next hb hw (hq q List.mem_cons_self) h
      obtain ⟨h1, h2, h3, h4⟩ := merge_keeps base l _ _ _ _ _ _ r0 r1 r2 r3 r4 (fun x hx => hq x (List.mem_cons_of_mem _ hx)) nx.ok nx.wf e
      refine ⟨h1, h2, Nat.le_trans h3 ?_, by have := nx.s; omega⟩
      obtain ⟨n, x, hn, hx, hx0⟩ := place_at (outcome_zero h).1
      cases hr : q.f3 with
      | true => rw [(doOf_remove hn hr).2.2.1]; exact List.length_eraseIdx_le _ _
      | false =>
        rw [doOf_flags hn hx hr]
        split
        · exact Nat.le_refl _
        · exact Nat.le_of_eq (by simp)
    · rw [mergeAll_no h] at e
      exact merge_keeps base l a0 a1 a2 l3 l4 own r0 r1 r2 r3 r4 (fun x hx => hq x (List.mem_cons_of_mem _ hx)) hb hw e
end Go.Proofs.YtbnmddippoiabaaDoor.P
end
/- What offline.Merge answers: plain Lean over the printed functions. -/
section
namespace Go.Proofs.YtbnmddippoiabaaDoor.P
open Go.RowKit Go.Proofs.YtbnmddippoiabaaDoorW.PrintWords Go.Proofs.YtbnmddippoiabaaDoorW.PrintLast Go.Proofs.YtbnmddippoiabaaDoorW.PrintMore
set_option linter.unusedVariables false
theorem rd_queued {l : List (S43)} {n : Nat} {x : S43} (h : l[n]? = some x) : rd_T43 l (n : Int) = x := by rw [rd_T43, Int.toNat_natCast, List.getD_eq_getElem?_getD, h]; rfl
theorem queuedj_ev (l t : List (S43)) (j : Nat) (x : S43) (hj : j < 1000) (next : ∃ r, Ev (fun k => offline_queued.l0 k l l.length ((j + 1 : Nat) : Int)) r ∧ (r.1 = 0 → r.2 = 0 ∧ ∀ q ∈ t, QOk q)) (b : Bool) :
    ∃ r, Ev (fun k => offline_queued.j1 k j l l.length j b x.f0 x.f1 x.f2 x.f3) r ∧ (r.1 = 0 → r.2 = 0 ∧ b = false ∧ ∀ q ∈ t, QOk q) := by
  have hw : wrap64 ((j : Int) + 1) = ((j + 1 : Nat) : Int) := by unfold wrap64; omega
  cases b with
  | true => exact ⟨(3, wrap64 (1000 + j)), Ev.one (fun k => by simp only [offline_queued.j1]; rw [if_pos trivial]), fun h => by cases h⟩
  | false =>
    obtain ⟨r, hr, h0⟩ := next
    have last : ∀ (g : Nat → Option (Int × Int)), (∀ k, g k = if (Go.bits .and .i64 x.f1 x.f2) = 0 then (offline_queued.l0 k l l.length (wrap64 ((j : Int) + 1))) else (some (5, wrap64 (1000 + (j : Int))))) → ∃ r, Ev g r ∧ (r.1 = 0 → r.2 = 0 ∧ false = false ∧ ∀ q ∈ t, QOk q) := fun g hg => by
      by_cases hb : Go.bits .and .i64 x.f1 x.f2 = 0
      · exact ⟨r, Ev.congr (fun k => by rw [hg, if_pos hb, hw]) hr, fun h => ⟨(h0 h).1, rfl, (h0 h).2⟩⟩
      · exact ⟨(5, wrap64 (1000 + j)), Ev.congr (fun k => by rw [hg, if_neg hb]) (Ev.now _), fun h => by cases h⟩
    cases h3 : x.f3 with
    | true =>
      by_cases hp : wrap64 (x.f1 + x.f2) > 0
      · exact ⟨(5, wrap64 (1000 + j)), Ev.one (fun k => by simp only [offline_queued.j1]; rw [if_neg (by simp), if_pos trivial, if_pos hp]), fun h => by cases h⟩
      · obtain ⟨r', hr', h'⟩ := last _ (fun k => rfl)
        exact ⟨r', Ev.step (fun k => by simp only [offline_queued.j1]; rw [if_neg (by simp), if_pos trivial, if_neg hp]) hr', h'⟩
    | false =>
      obtain ⟨r', hr', h'⟩ := last _ (fun k => rfl)
      exact ⟨r', Ev.step (fun k => by simp only [offline_queued.j1]; rw [if_neg (by simp), if_neg (by simp)]) hr', h'⟩
theorem queuedl_ev (l : List (S43)) (hl : l.length ≤ 100) : ∀ (t : List (S43)) (j : Nat), l.drop j = t → ∃ r, Ev (fun k => offline_queued.l0 k l l.length j) r ∧ (r.1 = 0 → r.2 = 0 ∧ ∀ q ∈ t, QOk q)
  | [], j, hd => by
    have hj : l.length ≤ j := List.drop_eq_nil_iff.1 hd
    exact ⟨(0, 0), Ev.one (fun k => by simp only [offline_queued.l0]; rw [if_neg (by omega)]), fun _ => ⟨rfl, fun _ h => by cases h⟩⟩
  | x :: t, j, hd => by
    have hx : l[j]? = some x := by rw [← List.head?_drop, hd]; rfl
    have hj := (List.getElem?_eq_some_iff.1 hx).1
    have hd' : l.drop (j + 1) = t := by rw [← List.tail_drop, hd]; rfl
    have next := queuedl_ev l hl t (j + 1) hd'
    by_cases c1 : x.f1 < 0
    · obtain ⟨r, hr, h0⟩ := queuedj_ev l t j x (by omega) next true
      exact ⟨r, Ev.step (fun k => by simp only [offline_queued.l0]; rw [if_pos (by omega), if_pos (by omega), if_pos (by omega), rd_queued hx, if_pos c1]) hr, fun h => absurd (h0 h).2.1 (by decide)⟩
    · by_cases c2 : x.f1 > 63
      · obtain ⟨r, hr, h0⟩ := queuedj_ev l t j x (by omega) next true
        exact ⟨r, Ev.step (fun k => by simp only [offline_queued.l0]; rw [if_pos (by omega), if_pos (by omega), if_pos (by omega), rd_queued hx, if_neg c1, if_pos c2]) hr, fun h => absurd (h0 h).2.1 (by decide)⟩
      · by_cases c3 : x.f2 < 0
        · obtain ⟨r, hr, h0⟩ := queuedj_ev l t j x (by omega) next true
          exact ⟨r, Ev.step (fun k => by simp only [offline_queued.l0]; rw [if_pos (by omega), if_pos (by omega), if_pos (by omega), rd_queued hx, if_neg c1, if_neg c2, if_pos c3]) hr, fun h => absurd (h0 h).2.1 (by decide)⟩
        · obtain ⟨r, hr, h0⟩ := queuedj_ev l t j x (by omega) next (decide (x.f2 > 63))
          refine ⟨r, Ev.step (fun k => by simp only [offline_queued.l0]; rw [if_pos (by omega), if_pos (by omega), if_pos (by omega), rd_queued hx, if_neg c1, if_neg c2, if_neg c3]) hr, fun h => ?_⟩
          obtain ⟨h1, h2, h3⟩ := h0 h
          have c4 := of_decide_eq_false h2
          refine ⟨h1, fun q hq => ?_⟩
          rcases List.mem_cons.1 hq with e | hq
          · rw [e]; exact ⟨by omega, by omega, by omega, by omega⟩
          · exact h3 q hq
theorem queued_ev (l : List (S43)) : ∃ r, Ev (fun k => offline_queued.f k l) r ∧ (r.1 = 0 → r.2 = 0 ∧ l.length ≤ 100 ∧ ∀ q ∈ l, QOk q) := by
  by_cases h : (l.length : Int) > 100
  · exact ⟨(2, -2), Ev.congr (fun k => by unfold offline_queued.f; rw [if_pos h]) (Ev.now _), fun h => by cases h⟩
  · obtain ⟨r, hr, h0⟩ := queuedl_ev l (by omega) l 0 rfl
    exact ⟨r, Ev.congr (fun k => by unfold offline_queued.f; rw [if_neg h]; rfl) hr, fun h1 => ⟨(h0 h1).1, by omega, (h0 h1).2⟩⟩
theorem box_wf {a0 a1 a2 : Int} {l3 : List (S55)} {l4 : List (S75)} (hw : WFBox l3 l4) {k : Nat} (h : mailbox_Validate.f k a0 a1 a2 l3 l4 = some (0, 0)) : (Lit.int .i64 a1).wf = true := by
  obtain ⟨v, hv, h1, h2⟩ := box_ev (a0 := a0) (a1 := a1) (a2 := a2) hw
  have e := Ev.uniq hv (Ev.of (fun k => mailbox_Validate.mono _ _ _ _ _ k) h)
  have hb := h2.1 (by rw [e])
  have hs0 := hb.s0
  have hs1 := hb.s1
  exact WalkArith.wf_i64 ⟨by omega, by omega⟩
theorem box_sized {a0 a1 a2 : Int} {l3 : List (S55)} {l4 : List (S75)} (hw : WFBox l3 l4) (hb : BoxOk a0 a1 a2 l3 l4) (ql : List (S43)) (hq : ql.length ≤ 100) : msized l3 l4 ql := by
  refine ⟨Nat.le_trans hb.n3 (by omega), Nat.le_trans hb.n4 (by omega), by omega, fun e he => ?_⟩
  obtain ⟨i, hi⟩ := List.mem_iff_getElem?.1 he
  have := msgOk_small (hw.2.2 e he) (hb.e i e hi).2.2.2.2.2.2.2.2
  omega
/-- What Merge answers. -/
theorem merge_ev {a0 a1 a2 : Int} {l3 : List (S55)} {l4 : List (S75)} (hw : WFBox l3 l4) (base : Int) (ql : List (S43)) : ∃ (r0 r1 r2 : Int) (r3 : List (S55)) (r4 : List (S75)) (sl : List (S68)) (s5 s6 : Int), Ev (fun k => offline_Merge.f k a0 a1 a2 l3 l4 base ql) (r0, r1, r2, r3, r4, sl, s5, s6) ∧
    (s5 = 0 → BoxOk a0 a1 a2 l3 l4 ∧ 1 ≤ base ∧ base ≤ a1 ∧ ql.length ≤ 100 ∧ (∀ q ∈ ql, QOk q) ∧ (mergeAll base ql a0 a1 a2 l3 l4 []).1 = (r0, r1, r2, r3, r4) ∧ (mergeAll base ql a0 a1 a2 l3 l4 []).2 = sl) ∧ WFBox r3 r4 := by
  have wn : WFBox ([] : List (S55)) ([] : List (S75)) := ⟨by simp, by simp, fun _ h => by cases h⟩
  obtain ⟨v, hv, h1, h2⟩ := box_ev (a0 := a0) (a1 := a1) (a2 := a2) hw
  by_cases e1 : v = (0, 0)
  · have hb := h2.1 (by rw [e1])
    by_cases e2 : base < 1 ∨ a1 < base
    · exact ⟨0, 0, 0, [], [], [], 3, -4, Ev.bind hv (f := fun k t => _) (Ev.congr (fun k => by rw [if_pos e1, if_pos e2]) (Ev.now _)), (fun h => by cases h), wn⟩
    · obtain ⟨u, hu, h3⟩ := queued_ev ql
      by_cases e3 : u = (0, 0)
      · obtain ⟨-, h4, h5⟩ := h3 (by rw [e3])
        have hs := box_sized hw hb ql h4
        have hk := merge_keeps base ql a0 a1 a2 l3 l4 [] _ _ _ _ _ h5 hb hw rfl
        exact ⟨_, _, _, _, _, _, 0, 0, Ev.bind hv (f := fun k t => _) (Ev.congr (fun k => by rw [if_pos e1, if_neg e2]) (Ev.bind hu (f := fun k (u : Int × Int) => if u = (0, 0) then (if msized l3 l4 ql then some ((mergeAll base ql a0 a1 a2 l3 l4 []).1.1, (mergeAll base ql a0 a1 a2 l3 l4 []).1.2.1, (mergeAll base ql a0 a1 a2 l3 l4 []).1.2.2.1, (mergeAll base ql a0 a1 a2 l3 l4 []).1.2.2.2.1, (mergeAll base ql a0 a1 a2 l3 l4 []).1.2.2.2.2, (mergeAll base ql a0 a1 a2 l3 l4 []).2, (0 : Int), (0 : Int)) else none) else some (0, 0, 0, [], [], [], u.1, u.2)) (Ev.congr (fun k => by rw [if_pos e3, if_pos hs]) (Ev.now _)))), fun _ => ⟨hb, by omega, by omega, h4, h5, rfl, rfl⟩, hk.2.1⟩
      · refine ⟨0, 0, 0, [], [], [], u.1, u.2, Ev.bind hv (f := fun k t => _) (Ev.congr (fun k => by rw [if_pos e1, if_neg e2]) (Ev.bind hu (f := fun k (u : Int × Int) => if u = (0, 0) then (if msized l3 l4 ql then some ((mergeAll base ql a0 a1 a2 l3 l4 []).1.1, (mergeAll base ql a0 a1 a2 l3 l4 []).1.2.1, (mergeAll base ql a0 a1 a2 l3 l4 []).1.2.2.1, (mergeAll base ql a0 a1 a2 l3 l4 []).1.2.2.2.1, (mergeAll base ql a0 a1 a2 l3 l4 []).1.2.2.2.2, (mergeAll base ql a0 a1 a2 l3 l4 []).2, (0 : Int), (0 : Int)) else none) else some (0, 0, 0, [], [], [], u.1, u.2)) (Ev.congr (fun k => by rw [if_neg e3]) (Ev.now _)))), fun h => absurd (Prod.ext h (h3 h).1) e3, wn⟩
  · exact ⟨0, 0, 0, [], [], [], v.1, v.2, Ev.bind hv (f := fun k t => _) (Ev.congr (fun k => by rw [if_neg e1]) (Ev.now _)), fun h => absurd (Prod.ext h (h1 h)) e1, wn⟩
end Go.Proofs.YtbnmddippoiabaaDoor.P
end
