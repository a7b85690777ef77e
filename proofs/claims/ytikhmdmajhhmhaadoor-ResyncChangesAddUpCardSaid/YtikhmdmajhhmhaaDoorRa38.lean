/- The law that what has happened since a number contains what has happened since a later one: the walk for every argument. -/
import Derived.Test.YtikhmdmajhhmhaaDoorRa29
import Derived.Test.YtikhmdmajhhmhaaDoorRa37
namespace Go.Proofs.YtikhmdmajhhmhaaDoor.P
open Go.RowKit Go.Proofs.YtikhmdmajhhmhaaDoorW.PrintWords Go.Proofs.YtikhmdmajhhmhaaDoorW.PrintLast Go.Proofs.YtikhmdmajhhmhaaDoorW.PrintMore
set_option linter.unusedVariables false
theorem rd_seen {l : List (S34)} {n : Nat} {x : S34} (h : l[n]? = some x) : rd_T34 l (n : Int) = x := by rw [rd_T34, Int.toNat_natCast, List.getD_eq_getElem?_getD, h]; rfl
theorem rd_num {l : List Int} {n : Nat} {x : Int} (h : l[n]? = some x) : rd l (n : Int) = x := by rw [rd, Int.toNat_natCast, List.getD_eq_getElem?_getD, h]; rfl
theorem has_ev (l : List Int) (u : Int) (hl : l.length ≤ 1000) : ∀ (t : List Int) (j : Nat), l.drop j = t → u ∈ t → Ev (fun k => posthouseref7_Has.l0 k l u j) true
  | [], j, _, h => by cases h
  | x :: t, j, hd, h => by
    have hx : l[j]? = some x := by rw [← List.head?_drop, hd]; rfl
    have hj := (List.getElem?_eq_some_iff.1 hx).1
    have hd' : l.drop (j + 1) = t := by rw [← List.tail_drop, hd]; rfl
    have hw : wrap64 ((j : Int) + 1) = ((j + 1 : Nat) : Int) := by unfold wrap64; omega
    by_cases e : x = u
    · exact Ev.one (fun k => by simp only [posthouseref7_Has.l0]; rw [if_pos (by omega), if_pos (by omega), rd_num hx, if_pos e])
    · have h2 : u ∈ t := (List.mem_cons.1 h).elim (fun h' => absurd h'.symm e) id
      exact Ev.step (fun k => by simp only [posthouseref7_Has.l0]; rw [if_pos (by omega), if_pos (by omega), rd_num hx, if_neg e, hw]) (has_ev l u hl t (j + 1) hd' h2)
theorem addl2_ev (x8 x11 : List Int) (h8 : x8.length ≤ 1000) (h11 : x11.length ≤ 1000) : ∀ (t : List Int) (j : Nat), x11.drop j = t → (∀ d ∈ t, d ∈ x8) → Ev (fun k => posthouselaw8_ResyncChangesAddUp.l2 k x8 x11 j) true
  | [], j, hd, _ => by
    have hj : x11.length ≤ j := List.drop_eq_nil_iff.1 hd
    exact Ev.one (fun k => by simp only [posthouselaw8_ResyncChangesAddUp.l2]; rw [if_neg (by omega)])
  | x :: t, j, hd, h => by
    have hx : x11[j]? = some x := by rw [← List.head?_drop, hd]; rfl
    have hj := (List.getElem?_eq_some_iff.1 hx).1
    have hd' : x11.drop (j + 1) = t := by rw [← List.tail_drop, hd]; rfl
    have hw : wrap64 ((j : Int) + 1) = ((j + 1 : Nat) : Int) := by unfold wrap64; omega
    have hh : Ev (fun k => posthouseref7_Has.f k x8 x) true := has_ev x8 x h8 x8 0 rfl (h x List.mem_cons_self)
    exact Ev.step (fun k => by simp only [posthouselaw8_ResyncChangesAddUp.l2]; rw [if_pos (by omega), if_pos (by omega), rd_num hx]) (Ev.bind hh (f := fun k t => if t = true then (posthouselaw8_ResyncChangesAddUp.l2 k x8 x11 (wrap64 ((j : Int) + 1))) else (some false)) (Ev.congr (fun k => by rw [if_pos rfl, hw]) (addl2_ev x8 x11 h8 h11 t (j + 1) hd' (fun d hd => h d (List.mem_cons_of_mem _ hd)))))
theorem addl1_ev (x7 x10 : List (S34)) (x8 x11 : List Int) (h7 : x7.length ≤ 1000) (h10 : x10.length ≤ 1000) (i : Nat) (c : S34) (hc : x10[i]? = some c) (next : Ev (fun k => posthouselaw8_ResyncChangesAddUp.l0 k x7 x8 x10 x11 ((i + 1 : Nat) : Int)) true) : ∀ (t : List (S34)) (j : Nat) (b : Bool), x7.drop j = t → (b = true ∨ c ∈ t) → Ev (fun k => posthouselaw8_ResyncChangesAddUp.l1 k x7 x8 x10 x11 i b j) true
  | [], j, b, hd, h => by
    have hj : x7.length ≤ j := List.drop_eq_nil_iff.1 hd
    have hi := (List.getElem?_eq_some_iff.1 hc).1
    have hb : b = true := h.elim id (fun h => by cases h)
    have hw : wrap64 ((i : Int) + 1) = ((i + 1 : Nat) : Int) := by unfold wrap64; omega
    exact Ev.step (fun k => by simp only [posthouselaw8_ResyncChangesAddUp.l1]; rw [if_neg (by omega), if_pos hb, hw]) next
  | x :: t, j, b, hd, h => by
    have hx : x7[j]? = some x := by rw [← List.head?_drop, hd]; rfl
    have hj := (List.getElem?_eq_some_iff.1 hx).1
    have hi := (List.getElem?_eq_some_iff.1 hc).1
    have hd' : x7.drop (j + 1) = t := by rw [← List.tail_drop, hd]; rfl
    have hw : wrap64 ((j : Int) + 1) = ((j + 1 : Nat) : Int) := by unfold wrap64; omega
    cases b with
    | true => exact Ev.step (fun k => by simp only [posthouselaw8_ResyncChangesAddUp.l1]; rw [if_pos (by omega), if_pos (by simp), hw]) (addl1_ev x7 x10 x8 x11 h7 h10 i c hc next t (j + 1) true hd' (.inl rfl))
    | false =>
      refine Ev.step (fun k => by simp only [posthouselaw8_ResyncChangesAddUp.l1]; rw [if_pos (by omega), if_neg (by simp), if_pos (by omega), if_pos (by omega), if_pos (by omega), rd_seen hx, rd_seen hc, hw]) (addl1_ev x7 x10 x8 x11 h7 h10 i c hc next t (j + 1) (x.f0 == c.f0 && (x.f1 == c.f1)) hd' ?_)
      rcases h with h | h
      · cases h
      · rcases List.mem_cons.1 h with e | h
        · left; rw [e]; simp
        · exact .inr h
theorem addl0_ev (x7 x10 : List (S34)) (x8 x11 : List Int) (h7 : x7.length ≤ 1000) (h8 : x8.length ≤ 1000) (h10 : x10.length ≤ 1000) (h11 : x11.length ≤ 1000) (hv : ∀ d ∈ x11, d ∈ x8) : ∀ (t : List (S34)) (i : Nat), x10.drop i = t → (∀ c ∈ t, c ∈ x7) → Ev (fun k => posthouselaw8_ResyncChangesAddUp.l0 k x7 x8 x10 x11 i) true
  | [], i, hd, _ => by
    have hj : x10.length ≤ i := List.drop_eq_nil_iff.1 hd
    exact Ev.step (fun k => by simp only [posthouselaw8_ResyncChangesAddUp.l0]; rw [if_neg (by omega)]; rfl) (addl2_ev x8 x11 h8 h11 x11 0 rfl hv)
  | c :: t, i, hd, h => by
    have hc : x10[i]? = some c := by rw [← List.head?_drop, hd]; rfl
    have hi := (List.getElem?_eq_some_iff.1 hc).1
    have hd' : x10.drop (i + 1) = t := by rw [← List.tail_drop, hd]; rfl
    have ih := addl0_ev x7 x10 x8 x11 h7 h8 h10 h11 hv t (i + 1) hd' (fun c hc => h c (List.mem_cons_of_mem _ hc))
    exact Ev.step (fun k => by simp only [posthouselaw8_ResyncChangesAddUp.l0]; rw [if_pos (by omega)]; rfl) (addl1_ev x7 x10 x8 x11 h7 h10 i c hc ih x7 0 false rfl (.inr (h c List.mem_cons_self)))
/-- RESYNCCHANGESADDUP ANSWERS YES, whatever its arguments hold. -/
theorem ResyncChangesAddUp_walk (a0 a1 a2 : Int) (aA : Option Addr) (aa : Nat) (a3 : List (S63)) (aB : Option Addr) (ab : Nat) (a4 : List (S65)) (s s' : Int) (w : World) (wa : WFBox a3 a4) (ha3 : Kd.C k63 w aA a3.length a3) (ea3 : a3.length ≤ aa) (ha4 : Kd.C k65 w aB a4.length a4) (ea4 : a4.length ≤ ab) (ws : (Lit.int .i64 s).wf = true) (ws' : (Lit.int .i64 s').wf = true) :
    Calls Tryd.prog 3 #[.agg #[.int .i64 a0, .int .i64 a1, .int .i64 a2, .slice aA a3.length aa, .slice aB a4.length ab], .int .i64 s, .int .i64 s'] w fun e w' => e = .returned (.bool true) ∧ Below w.heap.size w w' := by
  have key : Ev (fun k => posthouselaw8_ResyncChangesAddUp.f k a0 a1 a2 a3 a4 s s') true := by
    obtain ⟨r, hr, h1, -⟩ := since_ev (a0 := a0) (a1 := a1) (a2 := a2) wa s
    obtain ⟨r', hr', h2, -⟩ := since_ev (a0 := a0) (a1 := a1) (a2 := a2) wa s'
    have skip : Ev (fun k => posthouselaw8_ResyncChangesAddUp.j0 k r.1 r.2.1 r'.1 r'.2.1 true) true := Ev.one (fun k => by simp only [posthouselaw8_ResyncChangesAddUp.j0]; rw [if_pos (by simp)])
    refine Ev.congr (fun k => by unfold posthouselaw8_ResyncChangesAddUp.f posthouselaw8_resyncExample.f; rw [Option.bind_some, if_pos rfl]) (Ev.bind hr (f := fun k b => (resync_Since.f k a0 a1 a2 a3 a4 s').bind fun c => (if b.2.2.1 = 0 then (if c.2.2.1 = 0 then (posthouselaw8_ResyncChangesAddUp.j0 k b.1 b.2.1 c.1 c.2.1 (decide (s' < s))) else (posthouselaw8_ResyncChangesAddUp.j0 k b.1 b.2.1 c.1 c.2.1 true)) else (posthouselaw8_ResyncChangesAddUp.j0 k b.1 b.2.1 c.1 c.2.1 true))) (Ev.bind hr' (f := fun k c => (if r.2.2.1 = 0 then (if c.2.2.1 = 0 then (posthouselaw8_ResyncChangesAddUp.j0 k r.1 r.2.1 c.1 c.2.1 (decide (s' < s))) else (posthouselaw8_ResyncChangesAddUp.j0 k r.1 r.2.1 c.1 c.2.1 true)) else (posthouselaw8_ResyncChangesAddUp.j0 k r.1 r.2.1 c.1 c.2.1 true))) ?_))
    by_cases e1 : r.2.2.1 = 0
    · by_cases e2 : r'.2.2.1 = 0
      · refine Ev.congr (fun k => by rw [if_pos e1, if_pos e2]) (?_ : Ev (fun k => posthouselaw8_ResyncChangesAddUp.j0 k r.1 r.2.1 r'.1 r'.2.1 (decide (s' < s))) true)
        by_cases h : s' < s
        · rw [decide_eq_true h]; exact skip
        · rw [decide_eq_false h]
          obtain ⟨hb, -, -, -, rfl⟩ := h1 e1
          obtain ⟨-, -, -, -, rfl⟩ := h2 e2
          have hn3 := hb.n3
          have hn4 := hb.n4
          have lc : ∀ z, (chg z a3).length ≤ 1000 := fun z => by unfold chg; rw [List.length_map]; exact Nat.le_trans (List.length_filter_le _ _) (by omega)
          have lv : ∀ z, (van z a4).length ≤ 1000 := fun z => by unfold van; rw [List.length_map]; exact Nat.le_trans (List.length_filter_le _ _) (by omega)
          exact Ev.step (fun k => by simp only [posthouselaw8_ResyncChangesAddUp.j0]; rw [if_neg (by simp)]; rfl) (addl0_ev _ _ _ _ (lc s) (lv s) (lc s') (lv s') (fun d hd => van_sub (by omega) hd) _ 0 rfl (fun c hc => chg_sub (by omega) hc))
      · exact Ev.congr (fun k => by rw [if_pos e1, if_neg e2]) skip
    · exact Ev.congr (fun k => by rw [if_neg e1]) skip
  obtain ⟨K, hK⟩ := key
  exact posthouselaw8_ResyncChangesAddUp.calls K a0 a1 a2 aA aa a3 aB ab a4 s s' true w ha3 ea3 ha4 ea4 (hK K (Nat.le_refl _))
end Go.Proofs.YtikhmdmajhhmhaaDoor.P
