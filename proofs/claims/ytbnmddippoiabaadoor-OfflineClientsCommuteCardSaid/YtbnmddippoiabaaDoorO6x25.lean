/- Several texts in one, each in its own section. The last: Of a region that draws its order: what is worldless may be taken first, whoever waits for it. -/
import Derived.Test.YtbnmddippoiabaaDoorO6x21
import Derived.Test.YtbnmddippoiabaaDoorO6x24
import Derived.Test.YtbnmddippoiabaaDoorO6x7
/- A possible change of a valid mailbox: the valid mailbox that comes of it, and its numbers. -/
section
namespace Go.Proofs.YtbnmddippoiabaaDoor.P
open Go.RowKit Go.Proofs.YtbnmddippoiabaaDoorW.PrintWords Go.Proofs.YtbnmddippoiabaaDoorW.PrintLast Go.Proofs.YtbnmddippoiabaaDoorW.PrintMore
set_option linter.unusedVariables false
structure Next (a0 a1 a2 : Int) (l3 : List (S55)) (l4 : List (S75)) (r0 r1 r2 : Int) (r3 : List (S55)) (r4 : List (S75)) : Prop where
  ok : BoxOk r0 r1 r2 r3 r4
  wf : WFBox r3 r4
  u : r0 = a0 ∨ r0 = a0 + 1
  s : (r1 = a1 ∧ r0 = a0 ∧ r2 = a2 ∧ r3 = l3 ∧ r4 = l4) ∨ r1 = a1 + 1
  h : a2 ≤ r2
theorem do_next {a0 a1 a2 : Int} {l3 : List (S55)} {l4 : List (S75)} {c0 c1 c2 c3 c4 : Int} {l5 : List (S98)} {l6 : List Int} (hb : BoxOk a0 a1 a2 l3 l4) (hc : ChangeOk c0 c1 c2 c3 c4 l5 l6) (hp : PossibleAt a0 a1 l3 c0 c1) (hw : WFBox l3 l4) (hm : WFMsg l5 l6) {r0 r1 r2 : Int} {r3 : List (S55)} {r4 : List (S75)} (e : mailbox_Do.m a0 a1 a2 l3 l4 c0 c1 c2 c3 c4 l5 l6 = (r0, r1, r2, r3, r4)) : Next a0 a1 a2 l3 l4 r0 r1 r2 r3 r4 := by
  have hu0 := hb.u0
  have hu1 := hb.u1
  have hs0 := hb.s0
  have hs1 := hb.s1
  have hn3 := hb.n3
  have hn4 := hb.n4
  have w0 : wrap64 (a0 + 1) = a0 + 1 := wrap_succ (by omega) (by omega)
  have w1 : wrap64 (a1 + 1) = a1 + 1 := wrap_succ (by omega) (by omega)
  unfold mailbox_Do.m at e
  rw [w0, w1] at e
  by_cases k1 : c0 = 1
  · rw [if_pos k1] at e
    obtain ⟨rfl, rfl, rfl, rfl, rfl⟩ := by simpa only [Prod.mk.injEq] using e
    refine ⟨do_add hb hc hp k1, ⟨by rw [List.length_append, List.length_singleton]; omega, hw.2.1, fun x hx => ?_⟩, .inr rfl, .inr rfl, Int.le_refl _⟩
    rcases List.mem_append.1 hx with hx | hx
    · exact hw.2.2 x hx
    · rw [List.mem_singleton.1 hx]; exact hm
  · rw [if_neg k1] at e
    obtain ⟨n, x, hn, hx, hx0⟩ := place_at (hp.2.2 k1)
    have gd : l3.getD (placeFrom l3 c1 0).toNat z55 = x := by rw [hn, Int.toNat_natCast, List.getD_eq_getElem?_getD, hx]; rfl
    rw [gd, hn, Int.toNat_natCast] at e
    by_cases k2 : c0 = 2
    · rw [if_pos k2] at e
      split at e
      · obtain ⟨rfl, rfl, rfl, rfl, rfl⟩ := by simpa only [Prod.mk.injEq] using e
        exact ⟨hb, hw, .inl rfl, .inl ⟨rfl, rfl, rfl, rfl, rfl⟩, Int.le_refl _⟩
      · obtain ⟨rfl, rfl, rfl, rfl, rfl⟩ := by simpa only [Prod.mk.injEq] using e
        refine ⟨do_flag hb hc hp.1 hx, ⟨by rw [List.length_set]; exact hw.1, hw.2.1, fun y hy => ?_⟩, .inl rfl, .inr rfl, Int.le_refl _⟩
        rcases List.mem_or_eq_of_mem_set hy with hy | rfl
        · exact hw.2.2 y hy
        · exact hw.2.2 x (List.mem_of_getElem? hx)
    · rw [if_neg k2] at e
      have wf3 : ∀ r4 : List (S75), r4.length ≤ 400 → WFBox (l3.eraseIdx n) r4 := fun r4 h4 => ⟨by have := List.length_eraseIdx_le l3 n; omega, by omega, fun y hy => hw.2.2 y (List.mem_of_mem_eraseIdx hy)⟩
      by_cases h4 : 400 < (l4 ++ [(⟨c1, a1⟩ : S75)]).length
      · rw [if_pos h4, if_pos h4] at e
        rw [List.length_append, List.length_singleton] at h4
        cases l4 with
        | nil => simp at h4
        | cons g l4 =>
          have h0 : ((g :: l4) ++ [(⟨c1, a1⟩ : S75)]).getD 0 z75 = g := rfl
          have h1 : ((g :: l4) ++ [(⟨c1, a1⟩ : S75)]).drop 1 = l4 ++ [(⟨c1, a1⟩ : S75)] := rfl
          rw [h0, h1] at e
          obtain ⟨rfl, rfl, rfl, rfl, rfl⟩ := by simpa only [Prod.mk.injEq] using e
          rw [List.length_cons] at hn4 h4
          have h2 := do_erase (do_forget hb) hp.1 hx (by omega)
          rw [hx0] at h2
          have h3 := (hb.g 0 g rfl).2.2.1
          exact ⟨h2, wf3 _ (by rw [List.length_append, List.length_singleton]; omega), .inl rfl, .inr rfl, by omega⟩
      · rw [if_neg h4, if_neg h4] at e
        rw [List.length_append, List.length_singleton] at h4
        obtain ⟨rfl, rfl, rfl, rfl, rfl⟩ := by simpa only [Prod.mk.injEq] using e
        have h2 := do_erase hb hp.1 hx (by omega)
        rw [hx0] at h2
        exact ⟨h2, wf3 _ (by rw [List.length_append, List.length_singleton]; omega), .inl rfl, .inr rfl, Int.le_refl _⟩
end Go.Proofs.YtbnmddippoiabaaDoor.P
end
/- Of a region that draws its order: what is worldless may be taken first, whoever waits for it. -/
section
namespace Go.Proofs.YtbnmddippoiabaaDoor.P
set_option linter.unusedVariables false
section
variable {P : Program} {ops : Array Oper} {Q : Exit → Act → World → Prop} {md : Region.Mode} {n : Nat} {T U : World → Prop}
/-- Number i may be taken first, whoever waits for it, if it yields its value in whatever world. -/
theorem till_first0 {i : Nat} {oi : Oper} {v : Value} (hin : i ≠ n) (hi : ops[i]? = some oi) (hsel : ∀ (j : Nat) (o : Oper) cs b, ops[j]? = some o → o.op ≠ .select cs b)
    (hQ : ∀ c a w, Q (.panic c) (a.put oi.dst v) w → Q (.panic c) a w) : ∀ (fuel : Nat) (listed : Array Bool) (a : Act) (w : World),
      (∀ j oj, ops[j]? = some oj → j ≠ i → listed.getD j true = false → (∀ e ∈ oj.after, Region.binds md e = true → e.on ≠ i) → oi.apart ops oj = true) →
      i ∈ Region.ready md ops listed → YieldsIf P ops (fun _ => True) oi v a → (T w ∧ (listed.getD n true = false → U w)) →
      wpTill P md ops Q n T U fuel (listed.setIfInBounds i true) (a.put oi.dst v) w → wpTill P md ops Q n T U (fuel + 1) listed a w := by
  intro fuel
  induction fuel with
  | zero =>
    intro listed a w _ hr hy hS H
    refine ⟨(fun h => by rw [h] at hr; cases hr), fun j hj => ?_⟩
    rcases Decidable.em (j = i) with rfl | hji
    · exact hy.wpOp hi trivial ⟨⟨hS.1, fun h _ => hS.2 h⟩, H⟩
    · have h1 := ready_mono hj hji
      rw [H.1] at h1
      cases h1
  | succ fuel ih =>
    intro listed a w hfree hr hy hS H
    refine ⟨(fun h => by rw [h] at hr; cases hr), fun j hj => ?_⟩
    rcases Decidable.em (j = i) with rfl | hji
    · exact hy.wpOp hi trivial ⟨⟨hS.1, fun h _ => hS.2 h⟩, H⟩
    · have hil := (mem_ready.1 hr).1
      obtain ⟨hjl, oj, hoj, hall⟩ := mem_ready.1 hj
      have hno : ∀ e ∈ oj.after, Region.binds md e = true → e.on ≠ i := fun e he hb heq => not_both hil (heq ▸ hall e he hb)
      have hnn : (listed.setIfInBounds i true).getD n true = listed.getD n true := getD_set_ne true hin
      refine wpOp_mono (fun a' w' k => ?_) (wpOp_putIf hoj (hfree j oj hoj hji hjl hno) (fun cs b => hsel i oi cs b hi) (fun cs b => hsel j oj cs b hoj) hQ hy (H.2 j (ready_mono hj hji)))
      obtain ⟨hy', ⟨hT, hU⟩, hrest⟩ := k
      rw [hnn] at hU
      refine ⟨⟨hT, hU⟩, ih _ a' w' (fun m om hm hmi hml hmo => ?_) (ready_mono hr (Ne.symm hji)) hy' ⟨hT, fun h => ?_⟩ (by rw [Array.setIfInBounds_comm _ _ hji]; exact hrest)⟩
      · refine hfree m om hm hmi ?_ hmo
        rcases Decidable.em (j = m) with rfl | hjm
        · exact hjl
        · rw [getD_set_ne true hjm] at hml
          exact hml
      · rcases Decidable.em (j = n) with rfl | hjn
        · have hlt : j < listed.size := by
            rcases Nat.lt_or_ge j listed.size with h2 | h2
            · exact h2
            · simp [Array.getElem?_eq_none h2] at hjl
          simp [hlt] at h
        · rw [getD_set_ne true hjn] at h
          exact hU h hjn
theorem till_free {i : Nat} {oi : Oper} {v : Value} {fuel : Nat} {listed : Array Bool} {a : Act} {w : World} (hi : ops[i]? = some oi) (hin : i ≠ n)
    (hs : Region.noSelect ops = true) (hf : Region.free md ops listed i = true) (hr : (Region.ready md ops listed).contains i = true)
    (hQ : ∀ c a w, Q (.panic c) (a.put oi.dst v) w → Q (.panic c) a w) (hy : YieldsIf P ops (fun _ => True) oi v a) (hS : T w ∧ (listed.getD n true = false → U w))
    (h : wpTill P md ops Q n T U fuel (listed.setIfInBounds i true) (a.put oi.dst v) w) : wpTill P md ops Q n T U (fuel + 1) listed a w :=
  till_first0 hin hi (Region.noSelect_spec hs) hQ fuel listed a w (Region.free_spec hi hf) (by simpa using hr) hy hS h
/-- The same two, the slot told. -/
theorem till_takeD {i : Nat} {oi : Oper} {v : Value} {fuel : Nat} {listed : Array Bool} {a : Act} {w : World} (d : Option Nat) (hi : ops[i]? = some oi) (hd : oi.dst = d) (hw : waitsFor md ops listed n i (waiters md ops i) = true)
    (hs : Region.noSelect ops = true) (hf : Region.free md ops listed i = true) (hr : (Region.ready md ops listed).contains i = true)
    (hQ : ∀ c a w, Q (.panic c) (a.put oi.dst v) w → Q (.panic c) a w) (hy : YieldsIf P ops (fun w => T w ∧ U w) oi v a) (hS : T w ∧ U w)
    (h : wpTill P md ops Q n T U fuel (listed.setIfInBounds i true) (a.put d v) w) : wpTill P md ops Q n T U (fuel + 1) listed a w :=
  till_take hi hw hs hf hr hQ hy hS (hd ▸ h)
theorem till_freeD {i : Nat} {oi : Oper} {v : Value} {fuel : Nat} {listed : Array Bool} {a : Act} {w : World} (d : Option Nat) (hi : ops[i]? = some oi) (hd : oi.dst = d) (hin : i ≠ n)
    (hs : Region.noSelect ops = true) (hf : Region.free md ops listed i = true) (hr : (Region.ready md ops listed).contains i = true)
    (hQ : ∀ c a w, Q (.panic c) (a.put oi.dst v) w → Q (.panic c) a w) (hy : YieldsIf P ops (fun _ => True) oi v a) (hS : T w ∧ (listed.getD n true = false → U w))
    (h : wpTill P md ops Q n T U fuel (listed.setIfInBounds i true) (a.put d v) w) : wpTill P md ops Q n T U (fuel + 1) listed a w :=
  till_free hi hin hs hf hr hQ hy hS (hd ▸ h)
end
end Go.Proofs.YtbnmddippoiabaaDoor.P
end
