/- What Make, Of, Same and Validate of views answer: plain Lean over the printed functions. -/
import Derived.Test.YtbnmddippoiabaaDoorO17x25
import Derived.Test.YtbnmddippoiabaaDoorO17x30
import Derived.Test.YtbnmddippoiabaaDoorO17x31
import Derived.Test.YtbnmddippoiabaaDoorO17x33
import Derived.Test.YtbnmddippoiabaaDoorO17x32
namespace Go.Proofs.YtbnmddippoiabaaDoor.P
open Go.RowKit Go.Proofs.YtbnmddippoiabaaDoorW.PrintWords Go.Proofs.YtbnmddippoiabaaDoorW.PrintLast Go.Proofs.YtbnmddippoiabaaDoorW.PrintMore
set_option linter.unusedVariables false
instance decSeen : DecidableEq (S83) := fun x y => decidable_of_iff (x.f0 = y.f0 ∧ x.f1 = y.f1) (by cases x; cases y; rw [S83.mk.injEq])
/-- What is seen of a mailbox. -/
def vmap (l : List (S55)) : List (S83) := l.map (fun x => ⟨x.f0, x.f2⟩)
theorem makel_ev (a1 : Int) (l : List (S55)) (hl : l.length ≤ 1000) : ∀ (t : List (S55)) (j : Nat) (x : List (S83)), l.drop j = t → x.length + t.length ≤ 1000 → Ev (fun k => views_Make.l0 k l l.length j a1 x) (a1, x ++ vmap t)
  | [], j, x, hd, _ => by
    have hj : l.length ≤ j := List.drop_eq_nil_iff.1 hd
    exact Ev.one (fun k => by simp only [views_Make.l0]; rw [if_neg (by omega)]; simp [vmap])
  | y :: t, j, x, hd, hx => by
    have hy : l[j]? = some y := by rw [← List.head?_drop, hd]; rfl
    have hj := (List.getElem?_eq_some_iff.1 hy).1
    have hd' : l.drop (j + 1) = t := by rw [← List.tail_drop, hd]; rfl
    rw [List.length_cons] at hx
    have hw : wrap64 ((j : Int) + 1) = ((j + 1 : Nat) : Int) := by unfold wrap64; omega
    have ih := makel_ev a1 l hl t (j + 1) (x ++ [⟨y.f0, y.f2⟩]) hd' (by rw [List.length_append, List.length_singleton]; omega)
    exact Ev.step (fun k => by simp only [views_Make.l0]; rw [if_pos (by omega), if_pos (by omega), if_pos (by omega), if_pos (by omega), rd_stored hy, hw]) (by rw [List.append_assoc] at ih; exact ih)
theorem make_ev (a0 a1 a2 : Int) (l3 : List (S55)) (l4 : List (S75)) (hl : l3.length ≤ 1000) : Ev (fun k => views_Make.f k a0 a1 a2 l3 l4) (a1, vmap l3) := by
  have h := makel_ev a1 l3 hl l3 0 [] rfl (by simpa using hl)
  rw [List.nil_append] at h
  exact h
theorem rd_seen {l : List (S83)} {n : Nat} {x : S83} (h : l[n]? = some x) : rd_T83 l (n : Int) = x := by rw [rd_T83, Int.toNat_natCast, List.getD_eq_getElem?_getD, h]; rfl
theorem seen_ne (x y : S83) : (!(x.f0 == y.f0) || (!(x.f1 == y.f1))) = true ↔ x ≠ y := by
  obtain ⟨a, b⟩ := x
  obtain ⟨c, d⟩ := y
  rw [ne_eq, S83.mk.injEq]
  by_cases h1 : a = c <;> by_cases h2 : b = d <;> simp [h1, h2]
theorem equall_ev (l m : List (S83)) (hl : l.length ≤ 1000) (hlm : l.length = m.length) : ∀ (t u : List (S83)) (j : Nat), l.drop j = t → m.drop j = u → t.length = u.length → Ev (fun k => api_Seen.l0 k l m l.length j) (decide (t = u))
  | [], [], j, hd, _, _ => by
    have hj : l.length ≤ j := List.drop_eq_nil_iff.1 hd
    exact Ev.one (fun k => by simp only [api_Seen.l0]; rw [if_neg (by omega)]; rfl)
  | [], _ :: _, _, _, _, h => by simp at h
  | _ :: _, [], _, _, _, h => by simp at h
  | x :: t, y :: u, j, hd, hd2, h => by
    have hx : l[j]? = some x := by rw [← List.head?_drop, hd]; rfl
    have hy : m[j]? = some y := by rw [← List.head?_drop, hd2]; rfl
    have hj := (List.getElem?_eq_some_iff.1 hx).1
    have hd' : l.drop (j + 1) = t := by rw [← List.tail_drop, hd]; rfl
    have hd2' : m.drop (j + 1) = u := by rw [← List.tail_drop, hd2]; rfl
    have hw : wrap64 ((j : Int) + 1) = ((j + 1 : Nat) : Int) := by unfold wrap64; omega
    by_cases e : x = y
    · have ih := equall_ev l m hl hlm t u (j + 1) hd' hd2' (by simpa using h)
      rw [show decide (x :: t = y :: u) = decide (t = u) by rw [e]; simp]
      exact Ev.step (fun k => by simp only [api_Seen.l0]; rw [if_pos (by omega), if_pos (by omega), if_pos (by omega), if_pos (by omega), rd_seen hx, rd_seen hy, if_neg (fun h => (seen_ne x y).1 h e), hw]) ih
    · rw [show decide (x :: t = y :: u) = false by simp [e]]
      exact Ev.one (fun k => by simp only [api_Seen.l0]; rw [if_pos (by omega), if_pos (by omega), if_pos (by omega), if_pos (by omega), rd_seen hx, rd_seen hy, if_pos ((seen_ne x y).2 e)])
theorem equal_ev (l m : List (S83)) (hl : l.length ≤ 1000) : Ev (fun k => api_Seen.f k l m) (decide (l = m)) := by
  by_cases h : l.length = m.length
  · exact Ev.congr (fun k => by unfold api_Seen.f; rw [if_pos (by omega)]; rfl) (equall_ev l m hl h l m 0 rfl rfl h)
  · rw [decide_eq_false (fun e => h (by rw [e]))]
    exact Ev.congr (fun k => by unfold api_Seen.f; rw [if_neg (by omega)]) (Ev.now _)
/-- What Of answers. -/
theorem of_ev {a0 a1 a2 : Int} {l3 : List (S55)} {l4 : List (S75)} (hw : WFBox l3 l4) : ∃ (v0 : Int) (vs : List (S83)) (q q' : Int), Ev (fun k => views_Of.f k a0 a1 a2 l3 l4) (v0, vs, q, q') ∧
    (q = 0 → BoxOk a0 a1 a2 l3 l4 ∧ v0 = a1 ∧ vs = vmap l3) ∧ (q ≠ 0 → v0 = 0 ∧ vs = []) := by
  obtain ⟨v, hv, h1, h2⟩ := box_ev (a0 := a0) (a1 := a1) (a2 := a2) hw
  by_cases e1 : v.1 = 0
  · have e2 := h1 e1
    have hb := h2.1 e1
    have hn := hb.n3
    refine ⟨a1, vmap l3, 0, 0, Ev.bind hv (f := fun k t => _) (Ev.congr (fun k => by rw [if_neg (by rw [e1, e2]; decide)]) (Ev.bind (make_ev a0 a1 a2 l3 l4 (by omega)) (f := fun k m => some (m.1, m.2, (0 : Int), (0 : Int))) (Ev.now _))), fun _ => ⟨hb, rfl, rfl⟩, fun h => absurd rfl h⟩
  · exact ⟨0, [], v.1, v.2, Ev.bind hv (f := fun k t => _) (Ev.congr (fun k => by rw [if_pos (by simp [e1])]) (Ev.now _)), fun h => absurd h e1, fun _ => ⟨rfl, rfl⟩⟩
/-- A list of what is seen is fine. -/
structure SeenOk (l : List (S83)) : Prop where
  n : l.length ≤ 600
  r : ∀ (i : Nat) x, l[i]? = some x → 1 ≤ x.f0 ∧ x.f0 ≤ 1000000 ∧ 0 ≤ x.f1 ∧ x.f1 ≤ 63
  o : ∀ (i : Nat) x y, l[i]? = some x → l[i + 1]? = some y → x.f0 < y.f0
theorem firstSeen_ok {l : List (S83)} (h : SeenOk l) : ∀ (n i : Nat), i + n ≤ l.length → firstSeen l n i = (0, 0)
  | 0, _, _ => rfl
  | n + 1, i, hi => by
    have hx : l[i]? = some (l[i]'(by omega)) := List.getElem?_eq_getElem (by omega)
    have hr := h.r i _ hx
    have hs : seenFault l i = 0 := by
      unfold seenFault
      rw [rd_seen hx, if_neg (by omega)]
      by_cases h0 : 0 < i
      · have hy : l[i - 1]? = some (l[i - 1]'(by omega)) := List.getElem?_eq_getElem (by omega)
        have ho := h.o (i - 1) _ _ hy (by rw [show i - 1 + 1 = i by omega]; exact hx)
        rw [rd_seen hy, if_neg (by omega)]
      · rw [if_neg (by omega)]
    rw [firstSeen, if_pos hs]
    exact firstSeen_ok h n (i + 1) (by omega)
theorem vval_ok {v0 : Int} {l : List (S83)} (h : SeenOk l) (h0 : 0 ≤ v0) (h1 : v0 ≤ 1000000) : views_Validate.f v0 l = some (0, 0) := by
  have hn := h.n
  unfold views_Validate.f
  rw [if_neg (by omega), if_neg (by omega), firstSeen_ok h _ _ (by omega)]
theorem vmap_at {l : List (S55)} {i : Nat} {x : S83} (h : (vmap l)[i]? = some x) : ∃ y, l[i]? = some y ∧ x = ⟨y.f0, y.f2⟩ := by
  unfold vmap at h
  rw [List.getElem?_map] at h
  obtain ⟨y, hy, rfl⟩ := Option.map_eq_some_iff.1 h
  exact ⟨y, hy, rfl⟩
theorem vmap_ok {a0 a1 a2 : Int} {l3 : List (S55)} {l4 : List (S75)} (hb : BoxOk a0 a1 a2 l3 l4) : SeenOk (vmap l3) := by
  have hu := hb.u1
  refine ⟨by unfold vmap; rw [List.length_map]; exact Nat.le_trans hb.n3 (by omega), fun i x hx => ?_, fun i x y hx hy => ?_⟩
  · obtain ⟨z, hz, rfl⟩ := vmap_at hx
    have h := hb.e i z hz
    exact ⟨h.1, by have := h.2.1; show z.f0 ≤ 1000000; omega, h.2.2.2.2.1, h.2.2.2.2.2.1⟩
  · obtain ⟨z, hz, rfl⟩ := vmap_at hx
    obtain ⟨u, hu, rfl⟩ := vmap_at hy
    exact hb.eo i z u hz hu
/-- What Same answers at a view that is fine. -/
theorem same_ev {v0 a0 a1 a2 : Int} {vs : List (S83)} {l3 : List (S55)} {l4 : List (S75)} (hv : views_Validate.f v0 vs = some (0, 0)) (hl : vs.length ≤ 1000) (hw : WFBox l3 l4) : ∃ (o : Bool) (q q' : Int), Ev (fun k => views_Same.f k v0 vs a0 a1 a2 l3 l4) (o, q, q') ∧
    (BoxOk a0 a1 a2 l3 l4 → q = 0 ∧ q' = 0 ∧ o = decide (vs = vmap l3)) := by
  obtain ⟨v, hb, h1, h2⟩ := box_ev (a0 := a0) (a1 := a1) (a2 := a2) hw
  by_cases e1 : v = (0, 0)
  · have hk := h2.1 (by rw [e1])
    have hn := hk.n3
    exact ⟨decide (vs = vmap l3), 0, 0, Ev.congr (fun k => by unfold views_Same.f; rw [hv, Option.bind_some, if_pos rfl]) (Ev.bind hb (f := fun k t => _) (Ev.congr (fun k => by rw [if_pos e1]) (Ev.bind (make_ev a0 a1 a2 l3 l4 (by omega)) (f := fun k m => (api_Seen.f k vs m.2).bind fun b => some (b, (0 : Int), (0 : Int))) (Ev.bind (equal_ev vs (vmap l3) hl) (f := fun k b => some (b, (0 : Int), (0 : Int))) (Ev.now _))))), fun _ => ⟨rfl, rfl, rfl⟩⟩
  · refine ⟨false, v.1, -5, Ev.congr (fun k => by unfold views_Same.f; rw [hv, Option.bind_some, if_pos rfl]) (Ev.bind hb (f := fun k t => _) (Ev.congr (fun k => by rw [if_neg e1]) (Ev.now _))), fun hk => absurd ?_ e1⟩
    have h3 := h2.2 hk
    have h4 := h1 h3
    exact Prod.ext h3 h4
end Go.Proofs.YtbnmddippoiabaaDoor.P
