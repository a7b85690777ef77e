/- Several texts in one, each in its own section. The last: A possible change of a valid mailbox: the valid mailbox that comes of it, and its numbers. -/
import Derived.Test.YtikhmdmajhhmhaaDoorRa18
import Derived.Test.YtikhmdmajhhmhaaDoorRa25
/- The check of a mailbox and of a change, and Apply: what they answer, in plain words. -/
section
namespace Go.Proofs.YtikhmdmajhhmhaaDoor.P
open Go.RowKit Go.Proofs.YtikhmdmajhhmhaaDoorW.PrintWords Go.Proofs.YtikhmdmajhhmhaaDoorW.PrintLast Go.Proofs.YtikhmdmajhhmhaaDoorW.PrintMore
set_option linter.unusedVariables false
def MsgOk (m : S40) : Prop := Ev (fun k => message_Validate.f k m.f0 m.f1) (0, 0)
theorem rd_stored {l : List (S63)} {n : Nat} {x : S63} (h : l[n]? = some x) : rd_T63 l (n : Int) = x := by rw [rd_T63, Int.toNat_natCast, List.getD_eq_getElem?_getD, h]; rfl
theorem rd_gone {l : List (S65)} {n : Nat} {x : S65} (h : l[n]? = some x) : rd_T65 l (n : Int) = x := by rw [rd_T65, Int.toNat_natCast, List.getD_eq_getElem?_getD, h]; rfl
theorem at_nat {α : Type} {l : List α} {i : Int} (h0 : 0 ≤ i) (h1 : i < l.length) : ∃ (n : Nat) (x : α), i = n ∧ l[n]? = some x := ⟨i.toNat, l[i.toNat], by omega, List.getElem?_eq_getElem (by omega)⟩
/-- A row of checks: the first that is not 0. -/
theorem bad_ev {g : Nat → Int → Option Int} : ∀ (n : Nat) (i : Int), (∀ j : Int, i ≤ j → j < i + n → ∃ c, Ev (fun k => g k j) c) → ∃ b, Ev (fun k => firstBad (g k) n i) b ∧ (b = none → ∀ j : Int, i ≤ j → j < i + n → Ev (fun k => g k j) 0) ∧ (∀ x, b = some x → x.1 ≠ 0 ∧ i ≤ x.2)
  | 0, i, _ => ⟨none, Ev.now _, (fun _ j h0 h1 => by omega), fun _ h => by cases h⟩
  | n + 1, i, h => by
    obtain ⟨c, hc⟩ := h i (Int.le_refl _) (by omega)
    by_cases hc0 : c = 0
    · obtain ⟨b, hb, h1, h2⟩ := bad_ev n (i + 1) (fun j h0 h1 => h j (by omega) (by omega))
      refine ⟨b, Ev.bind hc (f := fun k c => if c = 0 then firstBad (g k) n (i + 1) else some (some (c, i))) (Ev.congr (fun k => by rw [if_pos hc0]) hb), fun hn j h0 hj => ?_, (fun x hx => ⟨(h2 x hx).1, by have := (h2 x hx).2; omega⟩)⟩
      by_cases e : j = i
      · rw [e, ← hc0]; exact hc
      · exact h1 hn j (by omega) (by omega)
    · exact ⟨some (c, i), Ev.bind hc (f := fun k c => if c = 0 then firstBad (g k) n (i + 1) else some (some (c, i))) (Ev.congr (fun k => by rw [if_neg hc0]) (Ev.now _)), (fun h => by cases h), (fun x hx => by cases hx; exact ⟨hc0, Int.le_refl _⟩)⟩
theorem good_ev {g : Nat → Int → Option Int} : ∀ (n : Nat) (i : Int), (∀ j : Int, i ≤ j → j < i + n → Ev (fun k => g k j) 0) → Ev (fun k => firstBad (g k) n i) none
  | 0, i, _ => Ev.now _
  | n + 1, i, h => Ev.bind (h i (Int.le_refl _) (by omega)) (f := fun k c => if c = 0 then firstBad (g k) n (i + 1) else some (some (c, i))) (Ev.congr (fun k => by rw [if_pos rfl]) (good_ev n (i + 1) (fun j h0 h1 => h j (by omega) (by omega))))
/-- An entry of a valid mailbox. -/
def EntryOk (a0 a1 : Int) (x : S63) : Prop := 1 ≤ x.f0 ∧ x.f0 ≤ a0 - 1 ∧ 1 ≤ x.f1 ∧ x.f1 ≤ a1 - 1 ∧ 0 ≤ x.f2 ∧ x.f2 ≤ 63 ∧ -68719476736 ≤ x.f3 ∧ x.f3 ≤ 68719476736 ∧ MsgOk x.f4
structure BoxOk (a0 a1 a2 : Int) (l3 : List (S63)) (l4 : List (S65)) : Prop where
  n3 : l3.length ≤ 200
  n4 : l4.length ≤ 400
  u0 : 1 ≤ a0
  u1 : a0 ≤ 1000000
  s0 : 1 ≤ a1
  s1 : a1 ≤ 1000000
  h0 : 0 ≤ a2
  h1 : a2 ≤ a1 - 1
  e : ∀ (i : Nat) x, l3[i]? = some x → EntryOk a0 a1 x
  eo : ∀ (i : Nat) x y, l3[i]? = some x → l3[i + 1]? = some y → x.f0 < y.f0
  g : ∀ (i : Nat) x, l4[i]? = some x → 1 ≤ x.f0 ∧ x.f0 ≤ a0 - 1 ∧ a2 + 1 ≤ x.f1 ∧ x.f1 ≤ a1 - 1
  gp : ∀ (i : Nat) x, l4[i]? = some x → placeFrom l3 x.f0 0 < 0
  gu : ∀ (i j : Nat) x y, j < i → l4[i]? = some x → l4[j]? = some y → y.f0 ≠ x.f0
  go : ∀ (i : Nat) x y, l4[i]? = some x → l4[i + 1]? = some y → x.f1 < y.f1
theorem stored_ev {a0 a1 a2 : Int} {l3 : List (S63)} {l4 : List (S65)} (hu : 1 ≤ a0 ∧ a0 ≤ 1000000) (hs : 1 ≤ a1 ∧ a1 ≤ 1000000) (hw : WFBox l3 l4) {i : Nat} {x : S63} (hx : l3[i]? = some x) :
    ∃ c, Ev (fun k => mailbox_stored.f k a0 a1 a2 l3 l4 i) c ∧ (c = 0 ↔ EntryOk a0 a1 x ∧ ∀ y, 0 < i → l3[i - 1]? = some y → y.f0 < x.f0) := by
  have hi := (List.getElem?_eq_some_iff.1 hx).1
  have hmem : x ∈ l3 := List.mem_of_getElem? hx
  have w0 : wrap64 (a0 - 1) = a0 - 1 := wrap_pred (by omega) (by omega)
  have w1 : wrap64 (a1 - 1) = a1 - 1 := wrap_pred (by omega) (by omega)
  have st : ∀ k, mailbox_stored.f k a0 a1 a2 l3 l4 i = if (inB x.f0 1 (a0 - 1) && (inB x.f1 1 (a1 - 1) && (inB x.f2 0 63 && inB x.f3 (-68719476736) 68719476736))) = false then some 3 else if 0 < (i : Int) ∧ x.f0 ≤ (rd_T63 l3 ((i : Int) - 1)).f0 then some 19 else (message_Validate.f k x.f4.f0 x.f4.f1).bind fun t => some t.1 := fun k => by
    unfold mailbox_stored.f
    rw [if_pos ⟨by omega, by omega⟩]
    simp only [rd_stored hx, w0, w1]
  have prev : ∀ y, 0 < i → l3[i - 1]? = some y → rd_T63 l3 ((i : Int) - 1) = y := fun y h0 hy => by rw [show (i : Int) - 1 = ((i - 1 : Nat) : Int) from by omega]; exact rd_stored hy
  cases c1 : (inB x.f0 1 (a0 - 1) && (inB x.f1 1 (a1 - 1) && (inB x.f2 0 63 && inB x.f3 (-68719476736) 68719476736)))
  · refine ⟨3, Ev.congr st (Ev.congr (fun k => by rw [if_pos c1]) (Ev.now _)), (fun h => by cases h), fun h => ?_⟩
    obtain ⟨⟨q1, q2, q3, q4, q5, q6, q7, q8, _⟩, _⟩ := h
    rw [inB_iff.2 ⟨q1, q2⟩, inB_iff.2 ⟨q3, q4⟩, inB_iff.2 ⟨q5, q6⟩, inB_iff.2 ⟨q7, q8⟩] at c1
    cases c1
  · simp only [Bool.and_eq_true, inB_iff] at c1
    by_cases c2 : 0 < (i : Int) ∧ x.f0 ≤ (rd_T63 l3 ((i : Int) - 1)).f0
    · refine ⟨19, Ev.congr st (Ev.congr (fun k => by rw [if_neg (by simp [inB, c1]), if_pos c2]) (Ev.now _)), (fun h => by cases h), fun h => ?_⟩
      have hy := List.getElem?_eq_getElem (l := l3) (i := i - 1) (by omega)
      have := h.2 _ (by omega) hy
      have h2 := c2.2
      rw [prev _ (by omega) hy] at h2
      omega
    · obtain ⟨r, hr, hr2⟩ := msg_ev x.f4.f0 x.f4.f1 (hw.2.2 x hmem)
      refine ⟨r.1, Ev.congr st (Ev.congr (fun k => by rw [if_neg (by simp [inB, c1]), if_neg c2]) (Ev.bind (g := fun k => message_Validate.f k x.f4.f0 x.f4.f1) hr (f := fun k (t : Int × Int) => some t.1) (Ev.now _))), fun h => ⟨⟨c1.1.1, c1.1.2, c1.2.1.1, c1.2.1.2, c1.2.2.1.1, c1.2.2.1.2, c1.2.2.2.1, c1.2.2.2.2, ?_⟩, fun y h0 hy => ?_⟩, fun h => ?_⟩
      · have e : r = (0, 0) := Prod.ext h (hr2 h).1
        rw [e] at hr
        exact hr
      · have := prev y h0 hy
        rw [this] at c2
        exact Int.not_le.1 (fun h => c2 ⟨by omega, h⟩)
      · rw [Ev.uniq hr h.1.2.2.2.2.2.2.2.2]
theorem gone_val {a0 a1 a2 : Int} {l3 : List (S63)} {l4 : List (S65)} (hu : 1 ≤ a0 ∧ a0 ≤ 1000000) (hs : 1 ≤ a1 ∧ a1 ≤ 1000000) (hh : 0 ≤ a2 ∧ a2 ≤ a1 - 1) {i : Nat} {x : S65} (hx : l4[i]? = some x) :
    ∃ c, mailbox_gone.f a0 a1 a2 l3 l4 i = some c ∧ (c = 0 ↔ (1 ≤ x.f0 ∧ x.f0 ≤ a0 - 1 ∧ a2 + 1 ≤ x.f1 ∧ x.f1 ≤ a1 - 1) ∧ placeFrom l3 x.f0 0 < 0 ∧ (∀ (j : Nat) y, j < i → l4[j]? = some y → y.f0 ≠ x.f0) ∧ ∀ y, 0 < i → l4[i - 1]? = some y → y.f1 < x.f1) := by
  have hi := (List.getElem?_eq_some_iff.1 hx).1
  have w0 : wrap64 (a0 - 1) = a0 - 1 := wrap_pred (by omega) (by omega)
  have w1 : wrap64 (a1 - 1) = a1 - 1 := wrap_pred (by omega) (by omega)
  have w2 : wrap64 (a2 + 1) = a2 + 1 := wrap_succ (by omega) (by omega)
  have prev : ∀ y, 0 < i → l4[i - 1]? = some y → rd_T65 l4 ((i : Int) - 1) = y := fun y h0 hy => by rw [show (i : Int) - 1 = ((i - 1 : Nat) : Int) from by omega]; exact rd_gone hy
  unfold mailbox_gone.f
  rw [if_pos ⟨by omega, by omega⟩]
  simp only [rd_gone hx, w0, w1, w2, Int.toNat_natCast]
  cases c1 : (inB x.f0 1 (a0 - 1) && inB x.f1 (a2 + 1) (a1 - 1))
  · refine ⟨3, by rw [if_pos rfl], (fun h => by cases h), fun h => ?_⟩
    rw [inB_iff.2 ⟨h.1.1, h.1.2.1⟩, inB_iff.2 ⟨h.1.2.2.1, h.1.2.2.2⟩] at c1
    cases c1
  · simp only [Bool.and_eq_true, inB_iff] at c1
    by_cases c2 : 0 < (i : Int) ∧ x.f1 ≤ (rd_T65 l4 ((i : Int) - 1)).f1
    · refine ⟨19, by rw [if_neg (by simp), if_pos c2], (fun h => by cases h), fun h => ?_⟩
      have hy := List.getElem?_eq_getElem (l := l4) (i := i - 1) (by omega)
      have h1 := h.2.2.2 _ (by omega) hy
      have h2 := c2.2
      rw [prev _ (by omega) hy] at h2
      omega
    · have ord : ∀ y, 0 < i → l4[i - 1]? = some y → y.f1 < x.f1 := fun y h0 hy => by
        rw [prev y h0 hy] at c2
        exact Int.not_le.1 (fun h => c2 ⟨by omega, h⟩)
      by_cases c3 : 0 ≤ placeFrom l3 x.f0 0
      · exact ⟨7, by rw [if_neg (by simp), if_neg c2, if_pos (.inl c3)], (fun h => by cases h), fun h => by have := h.2.1; omega⟩
      · cases c4 : (l4.take i).any (fun y => y.f0 == x.f0)
        · refine ⟨0, by rw [if_neg (by simp), if_neg c2, if_neg (by rw [not_or]; exact ⟨c3, by simp⟩)], fun _ => ⟨⟨c1.1.1, c1.1.2, c1.2.1, c1.2.2⟩, by omega, fun j y hj hy he => ?_, ord⟩, fun _ => rfl⟩
          have hm : y ∈ l4.take i := List.mem_of_getElem? (i := j) (by rw [List.getElem?_take_of_lt hj]; exact hy)
          have := List.any_eq_false.1 c4 y hm
          exact this (by simpa using he)
        · refine ⟨7, by rw [if_neg (by simp), if_neg c2, if_pos (.inr rfl)], (fun h => by cases h), fun h => ?_⟩
          obtain ⟨y, hm, he⟩ := List.any_eq_true.1 c4
          obtain ⟨j, hj⟩ := List.mem_iff_getElem?.1 hm
          have hji : j < i := by have := (List.getElem?_eq_some_iff.1 hj).1; rw [List.length_take] at this; omega
          rw [List.getElem?_take_of_lt hji] at hj
          exact absurd (by simpa using he) (h.2.2.1 j y hji hj)
/-- THE CHECK OF A MAILBOX. -/
theorem box_ev {a0 a1 a2 : Int} {l3 : List (S63)} {l4 : List (S65)} (hw : WFBox l3 l4) : ∃ r, Ev (fun k => mailbox_Validate.f k a0 a1 a2 l3 l4) r ∧ (r.1 = 0 → r.2 = 0) ∧ (r.1 = 0 ↔ BoxOk a0 a1 a2 l3 l4) := by
  by_cases c1 : 200 < l3.length
  · exact ⟨(2, -1), Ev.congr (fun k => by unfold mailbox_Validate.f; rw [if_pos c1]) (Ev.now _), (fun h => by cases h), (fun h => by cases h), fun h => by have := h.n3; omega⟩
  by_cases c2 : 400 < l4.length
  · exact ⟨(2, -2), Ev.congr (fun k => by unfold mailbox_Validate.f; rw [if_neg c1, if_pos c2]) (Ev.now _), (fun h => by cases h), (fun h => by cases h), fun h => by have := h.n4; omega⟩
  cases c3 : (inB a0 1 1000000 && (inB a1 1 1000000 && inB a2 0 (wrap64 (a1 - 1))))
  · refine ⟨(3, -3), Ev.congr (fun k => by unfold mailbox_Validate.f; rw [if_neg c1, if_neg c2, if_pos c3]) (Ev.now _), (fun h => by cases h), (fun h => by cases h), fun h => ?_⟩
    have hs0 := h.s0
    have hs1 := h.s1
    rw [inB_iff.2 ⟨h.u0, h.u1⟩, inB_iff.2 ⟨h.s0, h.s1⟩, wrap_pred (by omega) (by omega), inB_iff.2 ⟨h.h0, h.h1⟩] at c3
    cases c3
  have c3' := c3
  simp only [Bool.and_eq_true, inB_iff] at c3'
  obtain ⟨⟨u0, u1⟩, ⟨s0, s1⟩, h0, h1⟩ := c3'
  rw [wrap_pred (by omega) (by omega)] at h1
  have st : ∀ k, mailbox_Validate.f k a0 a1 a2 l3 l4 = (firstBad (fun i => mailbox_stored.f k a0 a1 a2 l3 l4 i) l3.length 0).bind fun b => if b.isSome = true then some (b.getD (0, 0)) else (firstBad (fun i => mailbox_gone.f a0 a1 a2 l3 l4 i) l4.length 0).bind fun b => if b.isSome = true then some ((b.getD (0, 0)).1, 1000 + (b.getD (0, 0)).2) else some (0, 0) := fun k => by
    unfold mailbox_Validate.f; rw [if_neg c1, if_neg c2, if_neg (by rw [c3]; simp)]
  obtain ⟨b, hb, hb1, hb2⟩ := bad_ev (g := fun k i => mailbox_stored.f k a0 a1 a2 l3 l4 i) l3.length 0 (fun j j0 j1 => by
    obtain ⟨n, x, rfl, hx⟩ := at_nat j0 (by omega : j < l3.length)
    obtain ⟨c, hc, _⟩ := stored_ev (a2 := a2) ⟨u0, u1⟩ ⟨s0, s1⟩ hw hx
    exact ⟨c, hc⟩)
  cases b with
  | some y =>
    obtain ⟨hy, _⟩ := hb2 y rfl
    refine ⟨y, Ev.congr st (Ev.bind (g := fun k => firstBad (fun i => mailbox_stored.f k a0 a1 a2 l3 l4 i) l3.length 0) hb (f := fun k b => if b.isSome = true then some (b.getD (0, 0)) else (firstBad (fun i => mailbox_gone.f a0 a1 a2 l3 l4 i) l4.length 0).bind fun b => if b.isSome = true then some ((b.getD (0, 0)).1, 1000 + (b.getD (0, 0)).2) else some (0, 0)) (Ev.congr (fun k => rfl) (Ev.now _))), fun h => absurd h hy, fun h => absurd h hy, fun h => ?_⟩
    have hgood := good_ev (g := fun k i => mailbox_stored.f k a0 a1 a2 l3 l4 i) l3.length 0 (fun j j0 j1 => by
      obtain ⟨n, x, rfl, hx⟩ := at_nat j0 (by omega : j < l3.length)
      obtain ⟨c, hc, hc2⟩ := stored_ev (a2 := a2) ⟨u0, u1⟩ ⟨s0, s1⟩ hw hx
      have e := hc2.2 ⟨h.e n x hx, fun z hz hz2 => h.eo (n - 1) z x hz2 (by rw [show n - 1 + 1 = n from by omega]; exact hx)⟩
      rw [e] at hc
      exact hc)
    cases Ev.uniq hb hgood
  | none =>
    have hst := hb1 rfl
    have he : ∀ (i : Nat) x, l3[i]? = some x → EntryOk a0 a1 x ∧ ∀ y, 0 < i → l3[i - 1]? = some y → y.f0 < x.f0 := fun i x hx => by
      have hi := (List.getElem?_eq_some_iff.1 hx).1
      obtain ⟨c, hc, hc2⟩ := stored_ev (a2 := a2) ⟨u0, u1⟩ ⟨s0, s1⟩ hw hx
      exact hc2.1 (Ev.uniq hc (hst i (by omega) (by omega)))
    obtain ⟨b, hb', hb1', hb2'⟩ := bad_ev (g := fun _ i => mailbox_gone.f a0 a1 a2 l3 l4 i) l4.length 0 (fun j j0 j1 => by
      obtain ⟨n, x, rfl, hx⟩ := at_nat j0 (by omega : j < l4.length)
      obtain ⟨c, hc, _⟩ := gone_val (l3 := l3) ⟨u0, u1⟩ ⟨s0, s1⟩ ⟨h0, h1⟩ hx
      exact ⟨c, Ev.congr (fun k => hc) (Ev.now _)⟩)
    have st2 : ∀ r, Ev (fun k => if b.isSome = true then some ((b.getD (0, 0)).1, 1000 + (b.getD (0, 0)).2) else some ((0 : Int), (0 : Int))) r → Ev (fun k => mailbox_Validate.f k a0 a1 a2 l3 l4) r := fun r hr => Ev.congr st (Ev.bind (g := fun k => firstBad (fun i => mailbox_stored.f k a0 a1 a2 l3 l4 i) l3.length 0) hb (f := fun k b => if b.isSome = true then some (b.getD (0, 0)) else (firstBad (fun i => mailbox_gone.f a0 a1 a2 l3 l4 i) l4.length 0).bind fun b => if b.isSome = true then some ((b.getD (0, 0)).1, 1000 + (b.getD (0, 0)).2) else some (0, 0)) (Ev.congr (fun k => by rw [if_neg (by simp)]) (Ev.bind (g := fun k => firstBad (fun i => mailbox_gone.f a0 a1 a2 l3 l4 i) l4.length 0) hb' (f := fun k b => if b.isSome = true then some ((b.getD (0, 0)).1, 1000 + (b.getD (0, 0)).2) else some ((0 : Int), (0 : Int))) hr)))
    cases b with
    | some y =>
      obtain ⟨hy, _⟩ := hb2' y rfl
      refine ⟨(y.1, 1000 + y.2), st2 _ (Ev.now _), fun h => absurd h hy, fun h => absurd h hy, fun h => ?_⟩
      have hgood := good_ev (g := fun _ i => mailbox_gone.f a0 a1 a2 l3 l4 i) l4.length 0 (fun j j0 j1 => by
        obtain ⟨n, x, rfl, hx⟩ := at_nat j0 (by omega : j < l4.length)
        obtain ⟨c, hc, hc2⟩ := gone_val (l3 := l3) ⟨u0, u1⟩ ⟨s0, s1⟩ ⟨h0, h1⟩ hx
        have e := hc2.2 ⟨h.g n x hx, h.gp n x hx, fun j y hj hy => h.gu n j x y hj hx hy, fun z hz hz2 => h.go (n - 1) z x hz2 (by rw [show n - 1 + 1 = n from by omega]; exact hx)⟩
        rw [e] at hc
        exact Ev.congr (fun k => hc) (Ev.now _))
      cases Ev.uniq hb' hgood
    | none =>
      have hgt := hb1' rfl
      have hg : ∀ (i : Nat) x, l4[i]? = some x → (1 ≤ x.f0 ∧ x.f0 ≤ a0 - 1 ∧ a2 + 1 ≤ x.f1 ∧ x.f1 ≤ a1 - 1) ∧ placeFrom l3 x.f0 0 < 0 ∧ (∀ (j : Nat) y, j < i → l4[j]? = some y → y.f0 ≠ x.f0) ∧ ∀ y, 0 < i → l4[i - 1]? = some y → y.f1 < x.f1 := fun i x hx => by
        have hi := (List.getElem?_eq_some_iff.1 hx).1
        obtain ⟨c, hc, hc2⟩ := gone_val (l3 := l3) ⟨u0, u1⟩ ⟨s0, s1⟩ ⟨h0, h1⟩ hx
        exact hc2.1 (Ev.uniq (Ev.congr (g := fun _ : Nat => mailbox_gone.f a0 a1 a2 l3 l4 i) (fun k => hc) (Ev.now _)) (hgt i (by omega) (by omega)))
      refine ⟨(0, 0), st2 _ (Ev.now _), fun _ => rfl, fun _ => ⟨by omega, by omega, u0, u1, s0, s1, h0, h1, fun i x hx => (he i x hx).1, fun i x y hx hy => (he (i + 1) y hy).2 x (by omega) hx, fun i x hx => (hg i x hx).1, fun i x hx => (hg i x hx).2.1, fun i j x y hj hx hy => (hg i x hx).2.2.1 j y hj hy, fun i x y hx hy => (hg (i + 1) y hy).2.2.2 x (by omega) hx⟩, fun _ => rfl⟩
/-- A change that is well-formed by itself. -/
structure ChangeOk (c0 c1 c2 c3 c4 : Int) (l5 : List (S81)) (l6 : List Int) : Prop where
  kind : c0 = 1 ∨ c0 = 2 ∨ c0 = 3
  set0 : 0 ≤ c2
  set1 : c2 ≤ 63
  clr0 : 0 ≤ c3
  clr1 : c3 ≤ 63
  at0 : -68719476736 ≤ c4
  at1 : c4 ≤ 68719476736
  msg : c0 = 1 → MsgOk ⟨l5, l6⟩
  small : l5.length ≤ 60 ∧ l6.length ≤ 12000
end Go.Proofs.YtikhmdmajhhmhaaDoor.P
end
/- What a possible change makes of a valid mailbox: a valid mailbox, whose numbers have not decreased. -/
section
namespace Go.Proofs.YtikhmdmajhhmhaaDoor.P
open Go.RowKit Go.Proofs.YtikhmdmajhhmhaaDoorW.PrintWords Go.Proofs.YtikhmdmajhhmhaaDoorW.PrintLast Go.Proofs.YtikhmdmajhhmhaaDoorW.PrintMore
set_option linter.unusedVariables false
section
variable {a0 a1 a2 : Int} {l3 : List (S63)} {l4 : List (S65)}
theorem BoxOk.lt (h : BoxOk a0 a1 a2 l3 l4) : ∀ (d i : Nat) x y, l3[i]? = some x → l3[i + d + 1]? = some y → x.f0 < y.f0
  | 0, i, x, y, hx, hy => h.eo i x y hx hy
  | d + 1, i, x, y, hx, hy => by
    have hlt := (List.getElem?_eq_some_iff.1 hy).1
    have hz := List.getElem?_eq_getElem (l := l3) (i := i + d + 1) (by omega)
    exact Int.lt_trans (h.lt d i x _ hx hz) (h.eo (i + d + 1) _ y hz hy)
theorem BoxOk.lt' (h : BoxOk a0 a1 a2 l3 l4) {i j : Nat} {x y} (hij : i < j) (hx : l3[i]? = some x) (hy : l3[j]? = some y) : x.f0 < y.f0 := h.lt (j - i - 1) i x y hx (by rw [show i + (j - i - 1) + 1 = j from by omega]; exact hy)
theorem BoxOk.uniq (h : BoxOk a0 a1 a2 l3 l4) (i j : Nat) (x y : S63) (hx : l3[i]? = some x) (hy : l3[j]? = some y) (he : x.f0 = y.f0) : i = j := by
  rcases Nat.lt_trichotomy i j with hlt | rfl | hlt
  · have := h.lt' hlt hx hy; omega
  · rfl
  · have := h.lt' hlt hy hx; omega
theorem EntryOk.mono {a0' a1' : Int} {x : S63} (h : EntryOk a0 a1 x) (h0 : a0 ≤ a0') (h1 : a1 ≤ a1') : EntryOk a0' a1' x := ⟨h.1, by have := h.2.1; omega, h.2.2.1, by have := h.2.2.2.1; omega, h.2.2.2.2⟩
variable {c0 c1 c2 c3 c4 : Int} {l5 : List (S81)} {l6 : List Int}
end
end Go.Proofs.YtikhmdmajhhmhaaDoor.P
end
/- A possible change of a valid mailbox: the valid mailbox that comes of it, and its numbers. -/
section
namespace Go.Proofs.YtikhmdmajhhmhaaDoor.P
open Go.RowKit Go.Proofs.YtikhmdmajhhmhaaDoorW.PrintWords Go.Proofs.YtikhmdmajhhmhaaDoorW.PrintLast Go.Proofs.YtikhmdmajhhmhaaDoorW.PrintMore
set_option linter.unusedVariables false
structure Next (a0 a1 a2 : Int) (l3 : List (S63)) (l4 : List (S65)) (r0 r1 r2 : Int) (r3 : List (S63)) (r4 : List (S65)) : Prop where
  ok : BoxOk r0 r1 r2 r3 r4
  wf : WFBox r3 r4
  u : r0 = a0 ∨ r0 = a0 + 1
  s : (r1 = a1 ∧ r0 = a0 ∧ r2 = a2 ∧ r3 = l3 ∧ r4 = l4) ∨ r1 = a1 + 1
  h : a2 ≤ r2
end Go.Proofs.YtikhmdmajhhmhaaDoor.P
end
