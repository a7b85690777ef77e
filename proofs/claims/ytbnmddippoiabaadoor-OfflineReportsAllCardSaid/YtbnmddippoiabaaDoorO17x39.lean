/- Several texts in one, each in its own section. The last: Functions of this seat as Lean functions, and that the Go code comes to their answers: written by a program of this session's. -/
import Derived.Test.YtbnmddippoiabaaDoorO17x34
import Derived.Test.YtbnmddippoiabaaDoorO17x36
import Derived.Test.YtbnmddippoiabaaDoorO17x37
import Derived.Test.YtbnmddippoiabaaDoorO17x38
import Derived.Test.YtbnmddippoiabaaDoorO17x29
import Derived.Test.YtbnmddippoiabaaDoorO17x10
/- What With and Catch of views make of a view: plain Lean over the printed functions. -/
section
namespace Go.Proofs.YtbnmddippoiabaaDoor.P
open Go.RowKit Go.Proofs.YtbnmddippoiabaaDoorW.PrintWords Go.Proofs.YtbnmddippoiabaaDoorW.PrintLast Go.Proofs.YtbnmddippoiabaaDoorW.PrintMore
set_option linter.unusedVariables false
/-- By numbers, each greater than the one before. -/
def Up (l : List (S83)) : Prop := l.Pairwise (fun x y => x.f0 < y.f0)
theorem up_at {l : List (S83)} (h : Up l) {i j : Nat} {x y : S83} (hij : i < j) (hx : l[i]? = some x) (hy : l[j]? = some y) : x.f0 < y.f0 := by
  obtain ⟨hi, rfl⟩ := List.getElem?_eq_some_iff.1 hx
  obtain ⟨hj, rfl⟩ := List.getElem?_eq_some_iff.1 hy
  exact List.pairwise_iff_getElem.1 h i j hi hj hij
theorem up_ext : ∀ {l m : List (S83)}, Up l → Up m → (∀ x, x ∈ l ↔ x ∈ m) → l = m
  | [], [], _, _, _ => rfl
  | [], y :: m, _, _, h => by have := (h y).2 List.mem_cons_self; cases this
  | x :: l, [], _, _, h => by have := (h x).1 List.mem_cons_self; cases this
  | x :: l, y :: m, hl, hm, h => by
    obtain ⟨hl1, hl2⟩ := List.pairwise_cons.1 hl
    obtain ⟨hm1, hm2⟩ := List.pairwise_cons.1 hm
    have e : x = y := by
      rcases List.mem_cons.1 ((h x).1 List.mem_cons_self) with e | h1
      · exact e
      · rcases List.mem_cons.1 ((h y).2 List.mem_cons_self) with e | h2
        · exact e.symm
        · have := hm1 x h1
          have := hl1 y h2
          omega
    subst e
    rw [up_ext hl2 hm2 (fun z => ⟨fun hz => ?_, fun hz => ?_⟩)]
    · rcases List.mem_cons.1 ((h z).1 (List.mem_cons_of_mem _ hz)) with e | h1
      · have := hl1 z hz; rw [e] at this; omega
      · exact h1
    · rcases List.mem_cons.1 ((h z).2 (List.mem_cons_of_mem _ hz)) with e | h1
      · have := hm1 z hz; rw [e] at this; omega
      · exact h1
theorem seenAt_is {l : List (S83)} {i : Nat} {x : S83} (h : l[i]? = some x) : seenAt l i = x := rd_seen h
theorem bsLoop_spec {l : List (S83)} (h : Up l) (t : Int) : ∀ (n i j : Nat), i ≤ j → j ≤ l.length → j - i ≤ n → (∀ (m : Nat) x, m < i → l[m]? = some x → x.f0 < t) → (∀ (m : Nat) x, j ≤ m → l[m]? = some x → t ≤ x.f0) →
    bsLoop l t n i j ≤ l.length ∧ (∀ (m : Nat) x, m < bsLoop l t n i j → l[m]? = some x → x.f0 < t) ∧ (∀ (m : Nat) x, bsLoop l t n i j ≤ m → l[m]? = some x → t ≤ x.f0)
  | 0, i, j, hij, hj, hn, h1, h2 => by
    obtain rfl : i = j := by omega
    exact ⟨hj, h1, h2⟩
  | n + 1, i, j, hij, hj, hn, h1, h2 => by
    unfold bsLoop
    by_cases hlt : i < j
    · rw [if_pos hlt]
      have hx : l[(i + j) / 2]? = some (l[(i + j) / 2]'(by omega)) := List.getElem?_eq_getElem (by omega)
      rw [seenAt_is hx]
      generalize l[(i + j) / 2]'(by omega) = x at hx
      by_cases hc : x.f0 < t
      · rw [if_pos hc]
        refine bsLoop_spec h t n _ _ (by omega) hj (by omega) (fun m y hm hy => ?_) h2
        rcases Nat.lt_or_ge m ((i + j) / 2) with h9 | h9
        · have := up_at h h9 hy hx; omega
        · obtain rfl : m = (i + j) / 2 := by omega
          rw [hx] at hy; injection hy with hy; rw [← hy]; exact hc
      · rw [if_neg hc]
        refine bsLoop_spec h t n _ _ (by omega) (by omega) (by omega) h1 (fun m y hm hy => ?_)
        rcases Nat.lt_or_ge ((i + j) / 2) m with h9 | h9
        · have := up_at h h9 hx hy; omega
        · obtain rfl : m = (i + j) / 2 := by omega
          rw [hx] at hy; injection hy with hy; rw [← hy]; omega
    · rw [if_neg hlt]
      obtain rfl : i = j := by omega
      exact ⟨hj, h1, h2⟩
theorem bsAt_spec {l : List (S83)} (h : Up l) (t : Int) : bsAt l t ≤ l.length ∧ (∀ (m : Nat) x, m < bsAt l t → l[m]? = some x → x.f0 < t) ∧ (∀ (m : Nat) x, bsAt l t ≤ m → l[m]? = some x → t ≤ x.f0) :=
  bsLoop_spec h t l.length 0 l.length (Nat.zero_le _) (Nat.le_refl _) (by omega) (fun m x hm => absurd hm (Nat.not_lt_zero _)) (fun m x hm hx => by have := (List.getElem?_eq_some_iff.1 hx).1; omega)
theorem withOne_ev {l : List (S83)} (h : Up l) (hn : l.length ≤ 100000) (s : S83) (hs : (∃ x ∈ l, x.f0 = s.f0) ∨ ∀ x ∈ l, x.f0 < s.f0) :
    ∃ l', withOne l s = some l' ∧ Up l' ∧ l'.length ≤ l.length + 1 ∧ ∀ x, x ∈ l' ↔ x = s ∨ (x ∈ l ∧ x.f0 ≠ s.f0) := by
  obtain ⟨b0, b1, b2⟩ := bsAt_spec h s.f0
  unfold withOne
  rw [if_pos (by omega)]
  by_cases hex : ∃ x ∈ l, x.f0 = s.f0
  · obtain ⟨x, hx, hxs⟩ := hex
    obtain ⟨i, hi⟩ := List.mem_iff_getElem?.1 hx
    have hil := (List.getElem?_eq_some_iff.1 hi).1
    have e : bsAt l s.f0 = i := by
      rcases Nat.lt_trichotomy (bsAt l s.f0) i with h9 | h9 | h9
      · have hy : l[bsAt l s.f0]? = some (l[bsAt l s.f0]'(by omega)) := List.getElem?_eq_getElem (by omega)
        have h8 := up_at h h9 hy hi
        have h7 := b2 _ _ (Nat.le_refl _) hy
        omega
      · exact h9
      · have h7 := b1 i x h9 hi
        omega
    rw [e, seenAt_is hi, if_pos (by rw [decide_eq_true hil, Bool.true_and, hxs]; exact beq_self_eq_true _)]
    refine ⟨_, rfl, ?_, by simp, fun y => ?_⟩
    · refine List.pairwise_iff_getElem.2 (fun m n hm hn' hmn => ?_)
      rw [List.length_set] at hm hn'
      have hum := List.pairwise_iff_getElem.1 h m n hm hn' hmn
      rw [List.getElem_set, List.getElem_set]
      have hxi : l[i] = x := Option.some.inj ((List.getElem?_eq_getElem hil).symm.trans hi)
      split
      · rename_i e1
        subst e1
        split
        · omega
        · rw [← hxs, ← hxi]; exact hum
      · split
        · rename_i e2
          subst e2
          rw [← hxs, ← hxi]; exact hum
        · exact hum
    · constructor
      · intro hy
        obtain ⟨m, hm⟩ := List.mem_iff_getElem?.1 hy
        by_cases hmi : i = m
        · subst hmi
          rw [List.getElem?_set_self hil] at hm
          injection hm with hm
          exact .inl hm.symm
        · rw [List.getElem?_set_ne hmi] at hm
          refine .inr ⟨List.mem_of_getElem? hm, fun e9 => ?_⟩
          rcases Nat.lt_or_gt_of_ne hmi with h9 | h9
          · have := up_at h h9 hi hm; omega
          · have := up_at h h9 hm hi; omega
      · rintro (rfl | ⟨hy, hne⟩)
        · exact List.mem_of_getElem? (List.getElem?_set_self hil)
        · obtain ⟨m, hm⟩ := List.mem_iff_getElem?.1 hy
          have hmi : i ≠ m := fun e9 => by
            subst e9
            rw [hi] at hm
            injection hm with hm
            exact hne (by rw [← hm]; exact hxs)
          exact List.mem_of_getElem? (by rw [List.getElem?_set_ne hmi]; exact hm)
  · have hall := hs.resolve_left hex
    have e : bsAt l s.f0 = l.length := by
      rcases Nat.lt_or_ge (bsAt l s.f0) l.length with h9 | h9
      · have hy : l[bsAt l s.f0]? = some (l[bsAt l s.f0]'h9) := List.getElem?_eq_getElem h9
        have h7 := b2 _ _ (Nat.le_refl _) hy
        have h6 := hall _ (List.mem_of_getElem? hy)
        omega
      · omega
    rw [e, if_neg (by simp), if_pos rfl]
    refine ⟨_, rfl, List.pairwise_append.2 ⟨h, List.pairwise_singleton _ _, fun x hx y hy => ?_⟩, by simp, fun y => ?_⟩
    · rw [List.mem_singleton.1 hy]; exact hall x hx
    · rw [List.mem_append, List.mem_singleton]
      constructor
      · rintro (hy | hy)
        · exact .inr ⟨hy, by have := hall y hy; omega⟩
        · exact .inl hy
      · rintro (hy | ⟨hy, -⟩)
        · exact .inr hy
        · exact .inl hy
theorem withAll_ev : ∀ (ch l : List (S83)), Up l → Up ch → l.length + ch.length ≤ 100000 → (∀ s ∈ ch, (∃ x ∈ l, x.f0 = s.f0) ∨ ∀ x ∈ l, x.f0 < s.f0) →
    ∃ l', withAll ch l = some l' ∧ Up l' ∧ l'.length ≤ l.length + ch.length ∧ ∀ x, x ∈ l' ↔ x ∈ ch ∨ (x ∈ l ∧ ∀ s ∈ ch, x.f0 ≠ s.f0)
  | [], l, h, _, _, _ => ⟨l, rfl, h, by simp, fun x => by simp⟩
  | s :: ch, l, h, hc, hn, hs => by
    obtain ⟨hc1, hc2⟩ := List.pairwise_cons.1 hc
    rw [List.length_cons] at hn
    obtain ⟨l1, e1, u1, n1, m1⟩ := withOne_ev h (by omega) s (hs s List.mem_cons_self)
    obtain ⟨l2, e2, u2, n2, m2⟩ := withAll_ev ch l1 u1 hc2 (by omega) (fun t ht => by
      rcases hs t (List.mem_cons_of_mem _ ht) with ⟨x, hx, hxt⟩ | hall
      · left
        exact ⟨x, (m1 x).2 (.inr ⟨hx, by have := hc1 t ht; omega⟩), hxt⟩
      · right
        intro x hx
        rcases (m1 x).1 hx with rfl | ⟨hx, -⟩
        · exact hc1 t ht
        · exact hall x hx)
    refine ⟨l2, by rw [withAll, e1, Option.bind_some]; exact e2, u2, by rw [List.length_cons]; omega, fun x => ?_⟩
    rw [m2, m1]
    constructor
    · rintro (hx | ⟨rfl | ⟨hx, hne⟩, hx2⟩)
      · exact .inl (List.mem_cons_of_mem _ hx)
      · exact .inl List.mem_cons_self
      · refine .inr ⟨hx, fun t ht => ?_⟩
        rcases List.mem_cons.1 ht with rfl | ht
        · exact hne
        · exact hx2 t ht
    · rintro (hx | ⟨hx, hx2⟩)
      · rcases List.mem_cons.1 hx with rfl | hx
        · exact .inr ⟨.inl rfl, fun t ht => by have := hc1 t ht; omega⟩
        · exact .inl hx
      · exact .inr ⟨.inr ⟨hx, hx2 s List.mem_cons_self⟩, fun t ht => hx2 t (List.mem_cons_of_mem _ ht)⟩
theorem vmap_up {a0 a1 a2 : Int} {l3 : List (S55)} {l4 : List (S75)} (hb : BoxOk a0 a1 a2 l3 l4) : Up (vmap l3) := by
  refine List.pairwise_iff_getElem.2 (fun m n hm hn hmn => ?_)
  obtain ⟨y, hy, e1⟩ := vmap_at (List.getElem?_eq_getElem hm)
  obtain ⟨z, hz, e2⟩ := vmap_at (List.getElem?_eq_getElem hn)
  rw [e1, e2]
  exact hb.lt' hmn hy hz
theorem chg_up {a0 a1 a2 : Int} {l3 : List (S55)} {l4 : List (S75)} (hb : BoxOk a0 a1 a2 l3 l4) (s : Int) : Up (chg s l3) := by
  have h : Up (vmap l3) := vmap_up hb
  have hsub : List.Sublist (chg s l3) (vmap l3) := by unfold chg vmap; exact List.Sublist.map _ List.filter_sublist
  exact List.Pairwise.sublist hsub h
/-- A client that has known the mailbox (O) and asks what has happened since sees the mailbox that came of it (L). -/
structure Since (s : Int) (O L : List (S55)) (G : List (S75)) : Prop where
  old : ∀ y ∈ L, y.f1 < s → ∃ o ∈ O, o.f0 = y.f0 ∧ o.f2 = y.f2
  gone : ∀ o ∈ O, (∃ y ∈ L, y.f0 = o.f0) ∨ o.f0 ∈ van s G
  new : ∀ y ∈ L, (∃ o ∈ O, o.f0 = y.f0) ∨ ∀ o ∈ O, o.f0 < y.f0
theorem catch_list {a0 a1 a2 b0 b1 b2 s : Int} {O L : List (S55)} {H G : List (S75)} (hO : BoxOk b0 b1 b2 O H) (hL : BoxOk a0 a1 a2 L G) (h : Since s O L G) : ∃ l, withAll (chg s L) (vmap O) = some l ∧ l.filter (kept (van s G)) = vmap L := by
  have hn3 := hL.n3
  have hon := hO.n3
  have lc : (chg s L).length ≤ 200 := by unfold chg; rw [List.length_map]; exact Nat.le_trans (List.length_filter_le _ _) hn3
  have lv : (vmap O).length ≤ 200 := by unfold vmap; rw [List.length_map]; exact hon
  have mc : ∀ x, x ∈ chg s L ↔ ∃ y ∈ L, s ≤ y.f1 ∧ x = ⟨y.f0, y.f2⟩ := fun x => by
    unfold chg
    rw [List.mem_map]
    constructor
    · rintro ⟨y, hy, rfl⟩
      obtain ⟨h1, h2⟩ := List.mem_filter.1 hy
      exact ⟨y, h1, of_decide_eq_true h2, rfl⟩
    · rintro ⟨y, hy, h2, rfl⟩
      exact ⟨y, List.mem_filter.2 ⟨hy, decide_eq_true h2⟩, rfl⟩
  have mv : ∀ (l : List (S55)) x, x ∈ vmap l ↔ ∃ y ∈ l, x = ⟨y.f0, y.f2⟩ := fun l x => by
    unfold vmap
    rw [List.mem_map]
    constructor
    · rintro ⟨y, hy, rfl⟩; exact ⟨y, hy, rfl⟩
    · rintro ⟨y, hy, rfl⟩; exact ⟨y, hy, rfl⟩
  have uniq : ∀ y ∈ L, ∀ z ∈ L, y.f0 = z.f0 → y = z := fun y hy z hz e => by
    obtain ⟨i, hi⟩ := List.mem_iff_getElem?.1 hy
    obtain ⟨j, hj⟩ := List.mem_iff_getElem?.1 hz
    obtain rfl := hL.uniq i j y z hi hj e
    rw [hi] at hj
    injection hj
  have nov : ∀ y ∈ L, y.f0 ∉ van s G := fun y hy hv => by
    unfold van at hv
    obtain ⟨g, hg, e⟩ := List.mem_map.1 hv
    obtain ⟨i, hi⟩ := List.mem_iff_getElem?.1 (List.mem_filter.1 hg).1
    exact place_neg.1 (hL.gp i g hi) y hy e.symm
  obtain ⟨l, e1, u1, -, m1⟩ := withAll_ev (chg s L) (vmap O) (vmap_up hO) (chg_up hL s) (by omega) (fun t ht => by
    obtain ⟨y, hy, -, rfl⟩ := (mc t).1 ht
    rcases h.new y hy with ⟨o, ho, e⟩ | hall
    · exact .inl ⟨⟨o.f0, o.f2⟩, (mv O _).2 ⟨o, ho, rfl⟩, e⟩
    · right
      intro x hx
      obtain ⟨o, ho, rfl⟩ := (mv O x).1 hx
      exact hall o ho)
  refine ⟨l, e1, up_ext (List.Pairwise.sublist List.filter_sublist u1) (vmap_up hL) (fun x => ?_)⟩
  rw [List.mem_filter, m1, mv L x]
  constructor
  · rintro ⟨hx | ⟨hx, hne⟩, hk⟩
    · obtain ⟨y, hy, -, rfl⟩ := (mc x).1 hx
      exact ⟨y, hy, rfl⟩
    · obtain ⟨o, ho, rfl⟩ := (mv O x).1 hx
      have hnv : o.f0 ∉ van s G := by simpa [kept] using hk
      obtain ⟨y, hy, e⟩ := (h.gone o ho).resolve_right hnv
      have hys : y.f1 < s := by
        rcases Int.lt_or_le y.f1 s with h9 | h9
        · exact h9
        · exact absurd e.symm (hne ⟨y.f0, y.f2⟩ ((mc _).2 ⟨y, hy, h9, rfl⟩))
      obtain ⟨o', ho', e1, e2⟩ := h.old y hy hys
      refine ⟨y, hy, ?_⟩
      obtain ⟨i, hi⟩ := List.mem_iff_getElem?.1 ho
      obtain ⟨j, hj⟩ := List.mem_iff_getElem?.1 ho'
      obtain rfl := hO.uniq i j o o' hi hj (e.symm.trans e1.symm)
      rw [hi] at hj
      injection hj with hj
      subst hj
      rw [← e1, ← e2]
  · rintro ⟨y, hy, rfl⟩
    refine ⟨?_, by simpa [kept] using nov y hy⟩
    rcases Int.lt_or_le y.f1 s with h9 | h9
    · right
      obtain ⟨o, ho, e1, e2⟩ := h.old y hy h9
      refine ⟨(mv O _).2 ⟨o, ho, by rw [e1, e2]⟩, fun t ht e => ?_⟩
      obtain ⟨z, hz, hzs, rfl⟩ := (mc t).1 ht
      obtain rfl := uniq y hy z hz e
      omega
    · left
      exact (mc _).2 ⟨y, hy, h9, rfl⟩
theorem catch_ev {a0 a1 a2 b0 b1 b2 : Int} {O L : List (S55)} {H G : List (S75)} (hw : WFBox L G) (hO : BoxOk b0 b1 b2 O H) (hL : BoxOk a0 a1 a2 L G) (h : Since b1 O L G) (h1 : b1 ≤ a1) (h2 : a2 < b1) :
    Ev (fun k => resync_Catch.f k a0 a1 a2 L G b1 (vmap O)) (a1, vmap L, false, 0, 0) := by
  obtain ⟨v, hv, g1, g2⟩ := box_ev (a0 := a0) (a1 := a1) (a2 := a2) hw
  have e1 := g2.2 hL
  have ev : v = (0, 0) := Prod.ext e1 (g1 e1)
  have hs0 := hO.s0
  have hs1 := hO.s1
  have hon := hO.n3
  have hval : views_Validate.f b1 (vmap O) = some (0, 0) := vval_ok (vmap_ok hO) (by omega) (by omega)
  obtain ⟨l, w1, w2⟩ := catch_list hO hL h
  have hwith : views_With.f b1 (vmap O) (chg b1 L) (van b1 G) a1 = some (a1, vmap L) := by
    unfold views_With.f
    rw [if_pos (by unfold vmap; rw [List.length_map]; omega), w1, Option.bind_some, w2]
  exact Ev.bind hv (f := fun k t => if t = (0, 0) then (views_Validate.f b1 (vmap O)).bind fun u => if u = (0, 0) ∧ b1 ≤ a1 then (resync_Changes.f k a0 a1 a2 L G b1).bind fun c => if c.2.2 = true then (views_With.f b1 (vmap O) c.1 c.2.1 a1).bind fun r => some (r.1, r.2, false, (0 : Int), (0 : Int)) else none else none else none)
    (Ev.congr (fun k => by rw [if_pos ev, hval, Option.bind_some, if_pos ⟨rfl, h1⟩]) (Ev.bind (changes_ev hL h2) (f := fun k c => if c.2.2 = true then (views_With.f b1 (vmap O) c.1 c.2.1 a1).bind fun r => some (r.1, r.2, false, (0 : Int), (0 : Int)) else none) (Ev.congr (fun k => by rw [if_pos rfl, hwith, Option.bind_some]) (Ev.now _))))
end Go.Proofs.YtbnmddippoiabaaDoor.P
end
/- What a client that has known the mailbox and was merged into it can ask for: plain Lean over mergeAll. -/
section
namespace Go.Proofs.YtbnmddippoiabaaDoor.P
open Go.RowKit Go.Proofs.YtbnmddippoiabaaDoorW.PrintWords Go.Proofs.YtbnmddippoiabaaDoorW.PrintLast Go.Proofs.YtbnmddippoiabaaDoorW.PrintMore
set_option linter.unusedVariables false
theorem van_app (s : Int) (l m : List (S75)) : van s (l ++ m) = van s l ++ van s m := by unfold van; rw [List.filter_append, List.map_append]
theorem van_none {s : Int} {l : List (S75)} (h : ∀ x ∈ l, x.f1 < s) : van s l = [] := by
  unfold van
  rw [List.filter_eq_nil_iff.2 (fun x hx => by have := h x hx; simp; omega)]
  rfl
theorem van_all {s : Int} {l : List (S75)} (h : ∀ x ∈ l, s ≤ x.f1) : (van s l).length = l.length := by
  unfold van
  rw [List.filter_eq_self.2 (fun x hx => decide_eq_true (h x hx)), List.length_map]
theorem mem_set_other {l : List (S55)} {n : Nat} {x z y : S55} (hx : l[n]? = some x) (hy : y ∈ l) : y ∈ l.set n z ∨ y = x := by
  obtain ⟨i, hi⟩ := List.mem_iff_getElem?.1 hy
  by_cases e : n = i
  · subst e
    rw [hx] at hi
    injection hi with hi
    exact .inr hi.symm
  · exact .inl (List.mem_of_getElem? (by rw [List.getElem?_set_ne e]; exact hi))
theorem mem_erase_other {l : List (S55)} {n : Nat} {x y : S55} (hx : l[n]? = some x) (hy : y ∈ l) : y ∈ l.eraseIdx n ∨ y = x := by
  obtain ⟨i, hi⟩ := List.mem_iff_getElem?.1 hy
  rcases Nat.lt_trichotomy i n with h | h | h
  · exact .inl (List.mem_of_getElem? (i := i) (by rw [List.getElem?_eraseIdx, if_pos h]; exact hi))
  · subst h
    rw [hx] at hi
    injection hi with hi
    exact .inr hi.symm
  · exact .inl (List.mem_of_getElem? (i := i - 1) (by rw [List.getElem?_eraseIdx, if_neg (by omega), show i - 1 + 1 = i by omega]; exact hi))
/-- What holds while changes are merged: s is the number that the client has known. -/
structure Keep (s a1 a2 : Int) (O L : List (S55)) (G : List (S75)) : Prop where
  si : Since s O L G
  sa : s ≤ a1
  hz : a2 < s
  ct : (van s G).length + L.length ≤ 200
theorem keep_flag {s a1 a2 : Int} {O L : List (S55)} {G : List (S75)} (h : Keep s a1 a2 O L G) {n : Nat} {x : S55} (hx : L[n]? = some x) (f : Int) : Keep s (a1 + 1) a2 O (L.set n ⟨x.f0, a1, f, x.f3, x.f4⟩) G := by
  have hs := h.sa
  have hxm := List.mem_of_getElem? hx
  have hnl := (List.getElem?_eq_some_iff.1 hx).1
  refine ⟨⟨fun y hy hys => ?_, fun o ho => ?_, fun y hy => ?_⟩, by omega, h.hz, by rw [List.length_set]; exact h.ct⟩
  · rcases List.mem_or_eq_of_mem_set hy with hy | rfl
    · exact h.si.old y hy hys
    · exact absurd hys (by show ¬ a1 < s; omega)
  · rcases h.si.gone o ho with ⟨y, hy, e⟩ | hv
    · left
      rcases mem_set_other (z := ⟨x.f0, a1, f, x.f3, x.f4⟩) hx hy with hy' | rfl
      · exact ⟨y, hy', e⟩
      · exact ⟨_, List.mem_of_getElem? (List.getElem?_set_self hnl), e⟩
    · exact .inr hv
  · rcases List.mem_or_eq_of_mem_set hy with hy | rfl
    · exact h.si.new y hy
    · exact h.si.new x hxm
theorem keep_gone {s a0 a1 a2 : Int} {O L : List (S55)} {G : List (S75)} (hb : BoxOk a0 a1 a2 L G) (h : Keep s a1 a2 O L G) {n : Nat} {x : S55} (hx : L[n]? = some x) :
    Keep s (a1 + 1) (if 400 < (G ++ [(⟨x.f0, a1⟩ : S75)]).length then ((G ++ [(⟨x.f0, a1⟩ : S75)]).getD 0 z75).f1 else a2) O (L.eraseIdx n) (if 400 < (G ++ [(⟨x.f0, a1⟩ : S75)]).length then (G ++ [(⟨x.f0, a1⟩ : S75)]).drop 1 else G ++ [(⟨x.f0, a1⟩ : S75)]) := by
  have hs := h.sa
  have hct := h.ct
  have hxm := List.mem_of_getElem? hx
  have hnl := (List.getElem?_eq_some_iff.1 hx).1
  have hlen : (L.eraseIdx n).length + 1 = L.length := by rw [List.length_eraseIdx, if_pos hnl]; omega
  have hvan1 : van s [(⟨x.f0, a1⟩ : S75)] = [x.f0] := by rw [van_cons, if_pos hs]; rfl
  have build : ∀ (G' : List (S75)) (a2' : Int), van s G' = van s G ++ [x.f0] → a2' < s → Keep s (a1 + 1) a2' O (L.eraseIdx n) G' := fun G' a2' hv ha2 => by
    refine ⟨⟨fun y hy hys => h.si.old y (List.mem_of_mem_eraseIdx hy) hys, fun o ho => ?_, fun y hy => h.si.new y (List.mem_of_mem_eraseIdx hy)⟩, by omega, ha2, by rw [hv, List.length_append, List.length_singleton]; omega⟩
    rw [hv]
    rcases h.si.gone o ho with ⟨y, hy, e⟩ | hv'
    · rcases mem_erase_other hx hy with hy' | rfl
      · exact .inl ⟨y, hy', e⟩
      · exact .inr (List.mem_append_right _ (by rw [e]; exact List.mem_singleton_self _))
    · exact .inr (List.mem_append_left _ hv')
  by_cases h4 : 400 < (G ++ [(⟨x.f0, a1⟩ : S75)]).length
  · rw [if_pos h4, if_pos h4]
    cases hG : G with
    | nil => rw [hG] at h4; simp at h4
    | cons g G1 =>
      rw [hG] at h4
      have hg : g.f1 < s := by
        rcases Int.lt_or_le g.f1 s with h9 | h9
        · exact h9
        · exfalso
          have hall : ∀ y ∈ G, s ≤ y.f1 := fun y hy => by
            obtain ⟨i, hi⟩ := List.mem_iff_getElem?.1 hy
            have h0 : G[0]? = some g := by rw [hG]; rfl
            cases i with
            | zero => rw [h0] at hi; injection hi with hi; rw [← hi]; exact h9
            | succ i => have := hb.glt i 0 g y h0 (by rw [Nat.zero_add]; exact hi); omega
          have h8 := van_all hall
          rw [hG] at h8
          rw [hG] at hct
          simp only [List.length_append, List.length_cons, List.length_nil] at h4 h8 hct
          omega
      refine build _ _ ?_ ?_
      · rw [hG]
        show van s (G1 ++ [(⟨x.f0, a1⟩ : S75)]) = van s (g :: G1) ++ [x.f0]
        rw [van_app, hvan1, van_cons, if_neg (by omega)]
      · show g.f1 < s
        exact hg
  · rw [if_neg h4, if_neg h4]
    exact build _ _ (by rw [van_app, hvan1]) h.hz
theorem merge_since (base s : Int) (O : List (S55)) : ∀ (l : List (S43)) (a0 a1 a2 : Int) (l3 : List (S55)) (l4 : List (S75)) (own : List (Int × Int)) (r0 r1 r2 : Int) (r3 : List (S55)) (r4 : List (S75)), (∀ q ∈ l, QOk q) → BoxOk a0 a1 a2 l3 l4 → WFBox l3 l4 → Keep s a1 a2 O l3 l4 → (mergeAll base l a0 a1 a2 l3 l4 own).1 = (r0, r1, r2, r3, r4) → Keep s r1 r2 O r3 r4
  | [], a0, a1, a2, l3, l4, own, r0, r1, r2, r3, r4, _, hb, hw, hk, e => by
    simp only [mergeAll, Prod.mk.injEq] at e
    obtain ⟨rfl, rfl, rfl, rfl, rfl⟩ := e
    exact hk
  | q :: l, a0, a1, a2, l3, l4, own, r0, r1, r2, r3, r4, hq, hb, hw, hk, e => by
    have hq' := fun x hx => hq x (List.mem_cons_of_mem _ hx)
    have hs0 := hb.s0
    have hs1 := hb.s1
    have w1 : wrap64 (a1 + 1) = a1 + 1 := wrap_succ (by omega) (by omega)
    by_cases h : outcomeOf a1 l3 own base q = 0
    · rw [mergeAll_yes h] at e
      have nx := doOf_next hb hw (hq q List.mem_cons_self) h
      obtain ⟨n, x, hn, hx, hx0⟩ := place_at (outcome_zero h).1
      refine merge_since base s O l _ _ _ _ _ _ r0 r1 r2 r3 r4 hq' nx.ok nx.wf ?_ e
      cases hr : q.f3 with
      | true =>
        obtain ⟨-, e1, e3, e2, e4⟩ := doOf_remove (a0 := a0) (a1 := a1) (a2 := a2) (l4 := l4) hn hr
        rw [e1, e2, e3, e4, w1, ← hx0]
        exact keep_gone hb hk hx
      | false =>
        have ef := doOf_flags (a0 := a0) (a1 := a1) (a2 := a2) (l4 := l4) hn hx hr
        by_cases hf : flagsBy q x.f2 = x.f2
        · rw [if_pos hf] at ef
          rw [ef]
          exact hk
        · rw [if_neg hf] at ef
          rw [ef]
          dsimp only
          rw [w1]
          exact keep_flag hk hx _
    · rw [mergeAll_no h] at e
      exact merge_since base s O l a0 a1 a2 l3 l4 own r0 r1 r2 r3 r4 hq' hb hw hk e
theorem keep_start {a0 a1 a2 : Int} {l3 : List (S55)} {l4 : List (S75)} (hb : BoxOk a0 a1 a2 l3 l4) : Keep a1 a1 a2 l3 l3 l4 := by
  have hh := hb.h1
  refine ⟨⟨fun y hy _ => ⟨y, hy, rfl, rfl⟩, fun o ho => .inl ⟨o, ho, rfl⟩, fun y hy => .inl ⟨y, hy, rfl⟩⟩, Int.le_refl _, by omega, ?_⟩
  rw [van_none (fun y hy => by obtain ⟨i, hi⟩ := List.mem_iff_getElem?.1 hy; have := (hb.g i y hi).2.2.2; omega)]
  simpa using hb.n3
end Go.Proofs.YtbnmddippoiabaaDoor.P
end
/- Functions of this seat as Lean functions, and that the Go code comes to their answers: written by a program of this session's. -/
section
namespace Go.Proofs.YtbnmddippoiabaaDoor.P
open Go.RowKit Go.Proofs.YtbnmddippoiabaaDoorW.PrintWords Go.Proofs.YtbnmddippoiabaaDoorW.PrintLast Go.Proofs.YtbnmddippoiabaaDoorW.PrintMore
attribute [local go_sem] max2_int min2_int max_two min_two max_three min_three max_four min_four   -- for this text's walks alone
set_option linter.unusedVariables false
set_option linter.unusedSimpArgs false

/-! ### posthouselaw8_letter: function 50 -/
def posthouselaw8_letter.f (a0 : ByteArray) : Option ((List (S98)) × List Int) := some ([⟨⟨#[83, 117, 98, 106, 101, 99, 116]⟩, a0⟩], [120, 13, 10])
set_option maxRecDepth 100000 in
theorem posthouselaw8_letter.calls (a0 : ByteArray) (r1 : List (S98)) (r2 : List Int) (w : World) (h : posthouselaw8_letter.f a0 = some (r1, r2)) :
    Calls Tryd.prog 50 #[.string a0] w fun e w' => ∃ v0_ v1_ : Value, e = .returned (.agg #[v0_, v1_]) ∧ Kd.V k98 98 w' w.heap.size (fun k_ => (w.heap.size ≤ k_)) v0_ r1 ∧ Kd.V (Kd.int .u8) 5 w' w.heap.size (fun k_ => (w.heap.size ≤ k_)) v1_ r2 ∧ Below w.heap.size w w' := by
  obtain ⟨rfl, rfl⟩ : [⟨⟨#[83, 117, 98, 106, 101, 99, 116]⟩, a0⟩] = r1 ∧ [120, 13, 10] = r2 := by simpa [posthouselaw8_letter.f] using h
  have hu := Tryd.underlying53
  have hu2 := Tryd.underlying98
  have kc : ∀ (W : World) (o1 o2 : Obj) (C : Array Value) (n c : Nat), Sem.run Tryd.prog (convert 51 51 (.slice (some ⟨W.heap.size + 1 + 1, 0, none⟩) n c)) (((W.alloc o1).alloc o2).alloc (.cells C 5)) = .ok (.slice (some ⟨W.heap.size + 1 + 1, 0, none⟩) n c) (((W.alloc o1).alloc o2).alloc (.cells C 5 (C.size, C.size + 1))) := fun W o1 o2 C n c => by
    have := Lib.run_convert_bytes_const (P := Tryd.prog) ((W.alloc o1).alloc o2) 51 5 C n c Tryd.underlying51 Tryd.underlying5
    simpa using this
  go_enter Tryd.func50, Tryd.ntmps50
  go_wp2
  refine bodyPost_ret (v := .agg #[.slice (some ⟨w.heap.size + 1, 0, none⟩) 1 1, .slice (some ⟨w.heap.size + 1 + 1, 0, none⟩) 3 3]) (by simp [results, Tryd.results50, go_sem]) rfl ⟨_, _, rfl, ?_, ?_, ?_⟩
  · exact V_one (blk_later (blk_at1 _ _) _) rfl (by omega) rfl (k98_mkF _ _ _) (Nat.le_refl _)
  · exact V_nums (xs := [120, 13, 10]) (blk_at2 _ _ _) (by omega) (fun j hj => by match j, hj with | 0, _ => rfl | 1, _ => rfl | 2, _ => rfl) (Nat.le_refl _) (by simp)
  · exact below_alloc (below_alloc (below_alloc (Below.refl _ _) _) _) _


end Go.Proofs.YtbnmddippoiabaaDoor.P
end
/- Functions of this seat as Lean functions, and that the Go code comes to their answers: written by a program of this session's. -/
section
namespace Go.Proofs.YtbnmddippoiabaaDoor.P
open Go.RowKit Go.Proofs.YtbnmddippoiabaaDoorW.PrintWords Go.Proofs.YtbnmddippoiabaaDoorW.PrintLast Go.Proofs.YtbnmddippoiabaaDoorW.PrintMore
attribute [local go_sem] max2_int min2_int max_two min_two max_three min_three max_four min_four   -- for this text's walks alone
set_option linter.unusedVariables false
set_option linter.unusedSimpArgs false

/-! ### posthouselaw8_three: function 30 -/
def posthouselaw8_three.f : Option (Int × Int × Int × (List (S55)) × (List (S75))) := (posthouselaw8_letter.f (⟨#[98]⟩ : ByteArray)).bind fun b => some (3, 5, 0, [⟨2, 3, 1, 9, ⟨b.1, b.2⟩⟩], [⟨1, 4⟩])
set_option maxRecDepth 100000 in
theorem posthouselaw8_three.calls (r1 : Int) (r2 : Int) (r3 : Int) (r4 : List (S55)) (r5 : List (S75)) (w : World) (h : posthouselaw8_three.f = some (r1, r2, r3, r4, r5)) :
    Calls Tryd.prog 30 #[] w fun e w' => ∃ v3_ v4_ : Value, e = .returned (.agg #[.int .i64 r1, .int .i64 r2, .int .i64 r3, v3_, v4_]) ∧ Kd.V k55 55 w' w.heap.size (fun k_ => (w.heap.size ≤ k_)) v3_ r4 ∧ Kd.V k75 75 w' w.heap.size (fun k_ => (w.heap.size ≤ k_)) v4_ r5 ∧ Below w.heap.size w w' := by
  obtain ⟨⟨t1, t2⟩, ht, h⟩ := Option.bind_eq_some_iff.1 h
  simp only [Option.some.injEq, Prod.mk.injEq] at h
  obtain ⟨rfl, rfl, rfl, rfl, rfl⟩ := h
  have hu := Tryd.underlying25
  have hu2 := Tryd.underlying55
  have hu3 := Tryd.underlying75
  go_enter Tryd.func30, Tryd.ntmps30
  go_wp2_with fail
  refine (posthouselaw8_letter.calls _ t1 t2 _ ht).mono ?_
  rintro e w1 ⟨_, _, rfl, ⟨A0, c0, rfl, l0, f0⟩, ⟨A1, c1, rfl, l1, f1⟩, hb⟩
  have hB := blk_call (blk_at _) hb
  have hz := hb.size
  simp only [World.size_alloc] at hz f0 f1
  have kc := bc2 hB
  have kf := bf2 hB
  replace hB := Aside0.mk hB
  replace f0 := Aside0.mk f0
  replace f1 := Aside0.mk f1
  replace hb := Aside0.mk hb
  go_wp2
  have hlt : w.heap.size ≠ w1.heap.size := by omega
  have hlt2 : w.heap.size ≠ w1.heap.size + 1 := by omega
  refine bodyPost_ret (v := .agg #[.int .i64 3, .int .i64 5, .int .i64 0, .slice (some ⟨w1.heap.size, 0, none⟩) 1 1, .slice (some ⟨w1.heap.size + 1, 0, none⟩) 1 1]) (by simp [results, Tryd.results30, go_sem, kc]) rfl ⟨_, _, rfl, ?_, ?_, ?_⟩
  · have hk : ∀ k, w.heap.size + 1 ≤ k → k ≠ w.heap.size := fun k hk => by omega
    exact V_one (blk_far (blk_far (blk_far (blk_far (blk_far (blk_later (blk_at _) _) hlt.symm _) hlt.symm _) hlt.symm _) hlt.symm _) hlt.symm _) rfl (by omega) rfl (k55_mkF _ _ (⟨2, 3, 1, 9, ⟨t1, t2⟩⟩ : S55) l0 (Kd.F_mono (Kd.F_far (Kd.F_far (Kd.F_far (Kd.F_far (Kd.F_far (Kd.F_alloc (Kd.F_alloc f0.out _) _) hk _) hk _) hk _) hk _) hk _) (fun k hk => by omega)) l1 (Kd.F_mono (Kd.F_far (Kd.F_far (Kd.F_far (Kd.F_far (Kd.F_far (Kd.F_alloc (Kd.F_alloc f1.out _) _) hk _) hk _) hk _) hk _) hk _) (fun k hk => by omega))) (Nat.le_refl _)
  · exact V_one (blk_far (blk_far (blk_far (blk_far (blk_far (blk_at1 _ _) hlt2.symm _) hlt2.symm _) hlt2.symm _) hlt2.symm _) hlt2.symm _) rfl (by omega) rfl (k75_mkF _ _ _) (Nat.le_refl _)
  · have := below_then (below_alloc (Below.refl _ w) _) (by simp) hb.out
    exact (below_set (below_set (below_set (below_set (below_set (below_alloc (below_alloc this _) _) (Nat.le_refl _)) (Nat.le_refl _)) (Nat.le_refl _)) (Nat.le_refl _)) (Nat.le_refl _))


end Go.Proofs.YtbnmddippoiabaaDoor.P
end
