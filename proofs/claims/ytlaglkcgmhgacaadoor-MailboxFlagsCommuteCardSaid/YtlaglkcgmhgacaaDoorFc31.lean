/- Several texts in one, each in its own section. The last: Functions of this seat as Lean functions, and that the Go code comes to their answers: written by a program of this session's. -/
import Derived.Test.YtlaglkcgmhgacaaDoorFc28
import Derived.Test.YtlaglkcgmhgacaaDoorFc29
import Derived.Test.YtlaglkcgmhgacaaDoorFc30
import Derived.Test.YtlaglkcgmhgacaaDoorFc7
import Derived.Test.YtlaglkcgmhgacaaDoorFc10
/- Two changes of the flags of two messages: in either order the same view. -/
section
namespace Go.Proofs.YtlaglkcgmhgacaaDoor.P
open Go.RowKit Go.Proofs.YtlaglkcgmhgacaaDoorW.PrintWords Go.Proofs.YtlaglkcgmhgacaaDoorW.PrintLast Go.Proofs.YtlaglkcgmhgacaaDoorW.PrintMore
set_option linter.unusedVariables false
/-- What a view shows of a message. -/
def seenOf (x : S58) : S64 := ⟨x.f0, x.f2⟩
theorem view_from (a0 a1 a2 : Int) (l3 : List (S58)) (l4 : List (S61)) (q : Int) (hl : l3.length ≤ 1000000) : ∀ (n i : Nat) (acc : List (S64)), i + n = l3.length → acc.length = i →
    Ev (fun k => posthouseref8_ViewOf.l0 k i a0 a1 a2 l3 l4 q acc) (q, acc ++ (l3.drop i).map seenOf)
  | 0, i, acc, hi, ha => Ev.step (f := fun _ => some (q, acc)) (fun k => by
      unfold posthouseref8_ViewOf.l0; rw [if_neg (by omega)]) (by
      rw [List.drop_of_length_le (by omega), List.map_nil, List.append_nil]; exact Ev.now _)
  | n + 1, i, acc, hi, ha => by
    have hx := List.getElem?_eq_getElem (l := l3) (i := i) (by omega)
    have ih := view_from a0 a1 a2 l3 l4 q hl n (i + 1) (acc ++ [seenOf l3[i]]) (by omega) (by rw [List.length_append, List.length_singleton, ha])
    rw [List.append_assoc, show [seenOf l3[i]] ++ (l3.drop (i + 1)).map seenOf = (l3.drop i).map seenOf from by rw [List.drop_eq_getElem_cons (by omega : i < l3.length)]; rfl] at ih
    refine Ev.step (fun k => ?_) ih
    rw [posthouseref8_ViewOf.l0, if_pos (by omega), if_pos (by omega), if_pos (by omega), rd_stored hx, wrap_succ (by omega) (by omega)]
    rfl
theorem view_ev (a0 a1 a2 : Int) (l3 : List (S58)) (l4 : List (S61)) (hl : l3.length ≤ 1000000) : Ev (fun k => posthouseref8_ViewOf.f k a0 a1 a2 l3 l4) (a1, l3.map seenOf) := by
  have h := view_from a0 a1 a2 l3 l4 a1 hl l3.length 0 [] (by omega) rfl
  rw [List.drop_zero, List.nil_append] at h
  exact Ev.congr (fun k => rfl) h
theorem seen_from (l : List (S64)) (hl : l.length ≤ 1000000) : ∀ (n i : Nat), i + n = l.length → Ev (fun k => posthouseref8_SameSeen.l0 k l l i) true
  | 0, i, hi => Ev.step (f := fun _ => some true) (fun k => by unfold posthouseref8_SameSeen.l0; rw [if_neg (by omega)]) (Ev.now _)
  | n + 1, i, hi => by
    refine Ev.step (fun k => ?_) (seen_from l hl n (i + 1) (by omega))
    rw [posthouseref8_SameSeen.l0, if_pos (by omega), if_pos (by omega), if_pos (by omega), wrap_succ (by omega) (by omega), if_neg (by simp)]
    rfl
theorem seen_ev (l : List (S64)) (hl : l.length ≤ 1000000) : Ev (fun k => posthouseref8_SameSeen.f k l l) true :=
  Ev.congr (fun k => by unfold posthouseref8_SameSeen.f; rw [if_pos rfl]; rfl) (seen_from l hl l.length 0 (by omega))
theorem place_nums : ∀ {l l' : List (S58)} {u i : Int}, l.map (·.f0) = l'.map (·.f0) → placeFrom l u i = placeFrom l' u i
  | [], [], _, _, _ => rfl
  | [], _ :: _, _, _, h => by cases h
  | _ :: _, [], _, _, h => by cases h
  | x :: l, y :: l', u, i, h => by
    rw [List.map_cons, List.map_cons, List.cons.injEq] at h
    unfold placeFrom
    rw [h.1, place_nums h.2]
theorem set_same {α : Type} {l : List α} {n : Nat} {x : α} (h : l[n]? = some x) : l.set n x = l := by
  apply List.ext_getElem?
  intro i
  by_cases e : n = i
  · subst e; rw [List.getElem?_set_self (List.getElem?_eq_some_iff.1 h).1, h]
  · rw [List.getElem?_set_ne e]
/-- A possible change of the flags of message x at place n. -/
theorem flag_is {a0 a1 a2 : Int} {l3 : List (S58)} {l4 : List (S61)} {c0 c1 c2 c3 c4 : Int} {l5 : List (S77)} {l6 : List Int} (hb : BoxOk a0 a1 a2 l3 l4) (k2 : c0 = 2) {n : Nat} {x : S58} (hn : placeFrom l3 c1 0 = n) (hx : l3[n]? = some x) {r0 r1 r2 : Int} {r3 : List (S58)} {r4 : List (S61)} (e : mailbox_Do.m a0 a1 a2 l3 l4 c0 c1 c2 c3 c4 l5 l6 = (r0, r1, r2, r3, r4)) :
    r1 = a1 + (if Go.bits .or .i64 (Go.bits .andNot .i64 x.f2 c3) c2 = x.f2 then 0 else 1) ∧ r3.map seenOf = (l3.map seenOf).set n ⟨x.f0, Go.bits .or .i64 (Go.bits .andNot .i64 x.f2 c3) c2⟩ ∧ r3.map (·.f0) = l3.map (·.f0) ∧ (∀ m : Nat, m ≠ n → r3[m]? = l3[m]?) ∧ r3.length = l3.length := by
  have hs0 := hb.s0
  have hs1 := hb.s1
  have w1 : wrap64 (a1 + 1) = a1 + 1 := wrap_succ (by omega) (by omega)
  unfold mailbox_Do.m at e
  rw [w1, if_neg (by omega), if_pos k2] at e
  have gd : l3.getD (placeFrom l3 c1 0).toNat z58 = x := by rw [hn, Int.toNat_natCast, List.getD_eq_getElem?_getD, hx]; rfl
  rw [gd, hn, Int.toNat_natCast] at e
  have hmap : (l3.map seenOf)[n]? = some ⟨x.f0, x.f2⟩ := by rw [List.getElem?_map, hx]; rfl
  have hmap0 : (l3.map (·.f0))[n]? = some x.f0 := by rw [List.getElem?_map, hx]; rfl
  by_cases h : Go.bits .or .i64 (Go.bits .andNot .i64 x.f2 c3) c2 = x.f2
  · rw [if_pos h] at e
    obtain ⟨rfl, rfl, rfl, rfl, rfl⟩ := by simpa only [Prod.mk.injEq] using e
    rw [if_pos h, h, set_same hmap]
    exact ⟨by omega, rfl, rfl, fun _ _ => rfl, rfl⟩
  · rw [if_neg h] at e
    obtain ⟨rfl, rfl, rfl, rfl, rfl⟩ := by simpa only [Prod.mk.injEq] using e
    rw [if_neg h]
    refine ⟨rfl, ?_, ?_, fun m hm => List.getElem?_set_ne (Ne.symm hm), by rw [List.length_set]⟩
    · rw [List.map_set]; rfl
    · rw [List.map_set]
      exact set_same hmap0
/-- Apply, whatever its arguments hold. -/
theorem apply_any {a0 a1 a2 : Int} {l3 : List (S58)} {l4 : List (S61)} {c0 c1 c2 c3 c4 : Int} {l5 : List (S77)} {l6 : List Int} (hw : WFBox l3 l4) (hm : WFMsg l5 l6) :
    ∃ r0 r1 r2 r3 r4 r5 r6, Ev (fun k => mailbox_Apply.f k a0 a1 a2 l3 l4 c0 c1 c2 c3 c4 l5 l6) (r0, r1, r2, r3, r4, r5, r6) ∧ WFBox r3 r4 ∧ (r5 = 0 → BoxOk a0 a1 a2 l3 l4 ∧ BoxOk r0 r1 r2 r3 r4 ∧ PossibleAt a0 a1 l3 c0 c1 ∧ mailbox_Do.m a0 a1 a2 l3 l4 c0 c1 c2 c3 c4 l5 l6 = (r0, r1, r2, r3, r4)) := by
  rcases apply_ev (a0 := a0) (a1 := a1) (a2 := a2) (c0 := c0) (c1 := c1) (c2 := c2) (c3 := c3) (c4 := c4) hw hm with ⟨q, r, hq, h⟩ | ⟨hb, hc, hp, h⟩
  · exact ⟨0, 0, 0, [], [], q, r, h, ⟨by simp, by simp, fun x hx => by cases hx⟩, fun h => absurd h hq⟩
  · obtain ⟨r0, r1, r2, r3, r4, e⟩ : ∃ r0 r1 r2 r3 r4, mailbox_Do.m a0 a1 a2 l3 l4 c0 c1 c2 c3 c4 l5 l6 = (r0, r1, r2, r3, r4) := ⟨_, _, _, _, _, rfl⟩
    have nx := do_next hb hc hp hw hm e
    exact ⟨r0, r1, r2, r3, r4, 0, 0, h _ e, nx.wf, fun _ => ⟨hb, nx.ok, hp, e⟩⟩
/-- One order of the two changes. -/
theorem two_flags {a0 a1 a2 : Int} {l3 : List (S58)} {l4 : List (S61)} {c0 c1 c2 c3 c4 : Int} {c5 : List (S77)} {c6 : List Int} {d0 d1 d2 d3 d4 : Int} {d5 : List (S77)} {d6 : List Int} {r0 r1 r2 : Int} {r3 : List (S58)} {r4 : List (S61)} {s0 s1 s2 : Int} {s3 : List (S58)} {s4 : List (S61)}
    (hb : BoxOk a0 a1 a2 l3 l4) (hr : BoxOk r0 r1 r2 r3 r4) (k1 : c0 = 2) (k2 : d0 = 2) {n m : Nat} (hnm : m ≠ n) {x y : S58} (hn : placeFrom l3 c1 0 = n) (hx : l3[n]? = some x) (hm : placeFrom l3 d1 0 = m) (hy : l3[m]? = some y)
    (e1 : mailbox_Do.m a0 a1 a2 l3 l4 c0 c1 c2 c3 c4 c5 c6 = (r0, r1, r2, r3, r4)) (e2 : mailbox_Do.m r0 r1 r2 r3 r4 d0 d1 d2 d3 d4 d5 d6 = (s0, s1, s2, s3, s4)) :
    s1 = a1 + (if Go.bits .or .i64 (Go.bits .andNot .i64 x.f2 c3) c2 = x.f2 then 0 else 1) + (if Go.bits .or .i64 (Go.bits .andNot .i64 y.f2 d3) d2 = y.f2 then 0 else 1) ∧ s3.map seenOf = ((l3.map seenOf).set n ⟨x.f0, Go.bits .or .i64 (Go.bits .andNot .i64 x.f2 c3) c2⟩).set m ⟨y.f0, Go.bits .or .i64 (Go.bits .andNot .i64 y.f2 d3) d2⟩ ∧ s3.length = l3.length := by
  obtain ⟨f1, f2, f3, f4, f5⟩ := flag_is hb k1 hn hx e1
  obtain ⟨g1, g2, g3, g4, g5⟩ := flag_is hr k2 (n := m) (x := y) (by rw [place_nums f3, hm]) (by rw [f4 m hnm, hy]) e2
  rw [g1, g2, f1, f2, g5, f5]
  exact ⟨rfl, rfl, rfl⟩
end Go.Proofs.YtlaglkcgmhgacaaDoor.P
end
/- Of a region that draws its order: what is worldless may be taken first, whoever waits for it. -/
section
namespace Go.Proofs.YtlaglkcgmhgacaaDoor.P
set_option linter.unusedVariables false
section
variable {P : Program} {ops : Array Oper} {Q : Exit → Act → World → Prop} {md : Region.Mode} {n : Nat} {T U : World → Prop}
/-- Number i may be taken first, whoever waits for it, if it yields its value in whatever world. -/
theorem till_first0 {i : Nat} {oi : Oper} {v : Value} (hin : i ≠ n) (hi : ops[i]? = some oi) (hsel : ∀ (j : Nat) (o : Oper) cs b, ops[j]? = some o → o.op ≠ .select cs b)
    (hQ : ∀ c a w, Q (.panic c) (a.put oi.dst v) w → Q (.panic c) a w) : ∀ (fuel : Nat) (listed : Array Bool) (a : Act) (w : World),
      (∀ j oj, ops[j]? = some oj → j ≠ i → listed.getD j true = false → (∀ e ∈ oj.after, Region.binds md e = true → e.on ≠ i) → oi.apart ops oj = true) →
      i ∈ Region.ready md ops listed → YieldsIf P ops (fun _ => True) oi v a → (T w ∧ (listed.getD n true = false → U w)) →
      wpTill P md ops Q n T U fuel (listed.setIfInBounds i true) (a.put oi.dst v) w → wpTill P md ops Q n T U (fuel + 1) listed a w := by
  intro fuel
  induction fuel with
  | zero =>
    intro listed a w _ hr hy hS H
    refine ⟨(fun h => by rw [h] at hr; cases hr), fun j hj => ?_⟩
    rcases Decidable.em (j = i) with rfl | hji
    · exact hy.wpOp hi trivial ⟨⟨hS.1, fun h _ => hS.2 h⟩, H⟩
    · have h1 := ready_mono hj hji
      rw [H.1] at h1
      cases h1
  | succ fuel ih =>
    intro listed a w hfree hr hy hS H
    refine ⟨(fun h => by rw [h] at hr; cases hr), fun j hj => ?_⟩
    rcases Decidable.em (j = i) with rfl | hji
    · exact hy.wpOp hi trivial ⟨⟨hS.1, fun h _ => hS.2 h⟩, H⟩
    · have hil := (mem_ready.1 hr).1
      obtain ⟨hjl, oj, hoj, hall⟩ := mem_ready.1 hj
      have hno : ∀ e ∈ oj.after, Region.binds md e = true → e.on ≠ i := fun e he hb heq => not_both hil (heq ▸ hall e he hb)
      have hnn : (listed.setIfInBounds i true).getD n true = listed.getD n true := getD_set_ne true hin
      refine wpOp_mono (fun a' w' k => ?_) (wpOp_putIf hoj (hfree j oj hoj hji hjl hno) (fun cs b => hsel i oi cs b hi) (fun cs b => hsel j oj cs b hoj) hQ hy (H.2 j (ready_mono hj hji)))
      obtain ⟨hy', ⟨hT, hU⟩, hrest⟩ := k
      rw [hnn] at hU
      refine ⟨⟨hT, hU⟩, ih _ a' w' (fun m om hm hmi hml hmo => ?_) (ready_mono hr (Ne.symm hji)) hy' ⟨hT, fun h => ?_⟩ (by rw [Array.setIfInBounds_comm _ _ hji]; exact hrest)⟩
      · refine hfree m om hm hmi ?_ hmo
        rcases Decidable.em (j = m) with rfl | hjm
        · exact hjl
        · rw [getD_set_ne true hjm] at hml
          exact hml
      · rcases Decidable.em (j = n) with rfl | hjn
        · have hlt : j < listed.size := by
            rcases Nat.lt_or_ge j listed.size with h2 | h2
            · exact h2
            · simp [Array.getElem?_eq_none h2] at hjl
          simp [hlt] at h
        · rw [getD_set_ne true hjn] at h
          exact hU h hjn
theorem till_free {i : Nat} {oi : Oper} {v : Value} {fuel : Nat} {listed : Array Bool} {a : Act} {w : World} (hi : ops[i]? = some oi) (hin : i ≠ n)
    (hs : Region.noSelect ops = true) (hf : Region.free md ops listed i = true) (hr : (Region.ready md ops listed).contains i = true)
    (hQ : ∀ c a w, Q (.panic c) (a.put oi.dst v) w → Q (.panic c) a w) (hy : YieldsIf P ops (fun _ => True) oi v a) (hS : T w ∧ (listed.getD n true = false → U w))
    (h : wpTill P md ops Q n T U fuel (listed.setIfInBounds i true) (a.put oi.dst v) w) : wpTill P md ops Q n T U (fuel + 1) listed a w :=
  till_first0 hin hi (Region.noSelect_spec hs) hQ fuel listed a w (Region.free_spec hi hf) (by simpa using hr) hy hS h
/-- The same two, the slot told. -/
theorem till_takeD {i : Nat} {oi : Oper} {v : Value} {fuel : Nat} {listed : Array Bool} {a : Act} {w : World} (d : Option Nat) (hi : ops[i]? = some oi) (hd : oi.dst = d) (hw : waitsFor md ops listed n i (waiters md ops i) = true)
    (hs : Region.noSelect ops = true) (hf : Region.free md ops listed i = true) (hr : (Region.ready md ops listed).contains i = true)
    (hQ : ∀ c a w, Q (.panic c) (a.put oi.dst v) w → Q (.panic c) a w) (hy : YieldsIf P ops (fun w => T w ∧ U w) oi v a) (hS : T w ∧ U w)
    (h : wpTill P md ops Q n T U fuel (listed.setIfInBounds i true) (a.put d v) w) : wpTill P md ops Q n T U (fuel + 1) listed a w :=
  till_take hi hw hs hf hr hQ hy hS (hd ▸ h)
theorem till_freeD {i : Nat} {oi : Oper} {v : Value} {fuel : Nat} {listed : Array Bool} {a : Act} {w : World} (d : Option Nat) (hi : ops[i]? = some oi) (hd : oi.dst = d) (hin : i ≠ n)
    (hs : Region.noSelect ops = true) (hf : Region.free md ops listed i = true) (hr : (Region.ready md ops listed).contains i = true)
    (hQ : ∀ c a w, Q (.panic c) (a.put oi.dst v) w → Q (.panic c) a w) (hy : YieldsIf P ops (fun _ => True) oi v a) (hS : T w ∧ (listed.getD n true = false → U w))
    (h : wpTill P md ops Q n T U fuel (listed.setIfInBounds i true) (a.put d v) w) : wpTill P md ops Q n T U (fuel + 1) listed a w :=
  till_free hi hin hs hf hr hQ hy hS (hd ▸ h)
end
end Go.Proofs.YtlaglkcgmhgacaaDoor.P
end
/- Functions of this seat as Lean functions, and that the Go code comes to their answers: written by a program of this session's. -/
section
namespace Go.Proofs.YtlaglkcgmhgacaaDoor.P
open Go.RowKit Go.Proofs.YtlaglkcgmhgacaaDoorW.PrintWords Go.Proofs.YtlaglkcgmhgacaaDoorW.PrintLast Go.Proofs.YtlaglkcgmhgacaaDoorW.PrintMore
attribute [local go_sem] max2_int min2_int max_two min_two max_three min_three max_four min_four   -- for this text's walks alone
set_option linter.unusedVariables false
set_option linter.unusedSimpArgs false

/-! ### posthouselaw8_letter: function 41 -/
def posthouselaw8_letter.f (a0 : ByteArray) : Option ((List (S77)) × List Int) := some ([⟨⟨#[83, 117, 98, 106, 101, 99, 116]⟩, a0⟩], [120, 13, 10])
set_option maxRecDepth 100000 in
theorem posthouselaw8_letter.calls (a0 : ByteArray) (r1 : List (S77)) (r2 : List Int) (w : World) (h : posthouselaw8_letter.f a0 = some (r1, r2)) :
    Calls Tryd.prog 41 #[.string a0] w fun e w' => ∃ v0_ v1_ : Value, e = .returned (.agg #[v0_, v1_]) ∧ Kd.V k77 77 w' w.heap.size (fun k_ => (w.heap.size ≤ k_)) v0_ r1 ∧ Kd.V (Kd.int .u8) 5 w' w.heap.size (fun k_ => (w.heap.size ≤ k_)) v1_ r2 ∧ Below w.heap.size w w' := by
  obtain ⟨rfl, rfl⟩ : [⟨⟨#[83, 117, 98, 106, 101, 99, 116]⟩, a0⟩] = r1 ∧ [120, 13, 10] = r2 := by simpa [posthouselaw8_letter.f] using h
  have hu := Tryd.underlying29
  have hu2 := Tryd.underlying77
  have kc : ∀ (W : World) (o1 o2 : Obj) (C : Array Value) (n c : Nat), Sem.run Tryd.prog (convert 27 27 (.slice (some ⟨W.heap.size + 1 + 1, 0, none⟩) n c)) (((W.alloc o1).alloc o2).alloc (.cells C 5)) = .ok (.slice (some ⟨W.heap.size + 1 + 1, 0, none⟩) n c) (((W.alloc o1).alloc o2).alloc (.cells C 5 (C.size, C.size + 1))) := fun W o1 o2 C n c => by
    have := Lib.run_convert_bytes_const (P := Tryd.prog) ((W.alloc o1).alloc o2) 27 5 C n c Tryd.underlying27 Tryd.underlying5
    simpa using this
  go_enter Tryd.func41, Tryd.ntmps41
  go_wp2
  refine bodyPost_ret (v := .agg #[.slice (some ⟨w.heap.size + 1, 0, none⟩) 1 1, .slice (some ⟨w.heap.size + 1 + 1, 0, none⟩) 3 3]) (by simp [results, Tryd.results41, go_sem]) rfl ⟨_, _, rfl, ?_, ?_, ?_⟩
  · exact V_one (blk_later (blk_at1 _ _) _) rfl (by omega) rfl (k77_mkF _ _ _) (Nat.le_refl _)
  · exact V_nums (xs := [120, 13, 10]) (blk_at2 _ _ _) (by omega) (fun j hj => by match j, hj with | 0, _ => rfl | 1, _ => rfl | 2, _ => rfl) (Nat.le_refl _) (by simp)
  · exact below_alloc (below_alloc (below_alloc (Below.refl _ _) _) _) _


end Go.Proofs.YtlaglkcgmhgacaaDoor.P
end
