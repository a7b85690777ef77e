/- Of a region that draws its order: what is worldless may be taken first, whoever waits for it. -/
import Derived.Test.YtjmnaipoccpbmaaDoorVs7
namespace Go.Proofs.YtjmnaipoccpbmaaDoor.P
set_option linter.unusedVariables false
section
variable {P : Program} {ops : Array Oper} {Q : Exit → Act → World → Prop} {md : Region.Mode} {n : Nat} {T U : World → Prop}
/-- Number i may be taken first, whoever waits for it, if it yields its value in whatever world. -/
theorem till_first0 {i : Nat} {oi : Oper} {v : Value} (hin : i ≠ n) (hi : ops[i]? = some oi) (hsel : ∀ (j : Nat) (o : Oper) cs b, ops[j]? = some o → o.op ≠ .select cs b)
    (hQ : ∀ c a w, Q (.panic c) (a.put oi.dst v) w → Q (.panic c) a w) : ∀ (fuel : Nat) (listed : Array Bool) (a : Act) (w : World),
      (∀ j oj, ops[j]? = some oj → j ≠ i → listed.getD j true = false → (∀ e ∈ oj.after, Region.binds md e = true → e.on ≠ i) → oi.apart ops oj = true) →
      i ∈ Region.ready md ops listed → YieldsIf P ops (fun _ => True) oi v a → (T w ∧ (listed.getD n true = false → U w)) →
      wpTill P md ops Q n T U fuel (listed.setIfInBounds i true) (a.put oi.dst v) w → wpTill P md ops Q n T U (fuel + 1) listed a w := by
  intro fuel
  induction fuel with
  | zero =>
    intro listed a w _ hr hy hS H
    refine ⟨(fun h => by rw [h] at hr; cases hr), fun j hj => ?_⟩
    rcases Decidable.em (j = i) with rfl | hji
    · exact hy.wpOp hi trivial ⟨⟨hS.1, fun h _ => hS.2 h⟩, H⟩
    · have h1 := ready_mono hj hji
      rw [H.1] at h1
      cases h1
  | succ fuel ih =>
    intro listed a w hfree hr hy hS H
    refine ⟨(fun h => by rw [h] at hr; cases hr), fun j hj => ?_⟩
    rcases Decidable.em (j = i) with rfl | hji
    · exact hy.wpOp hi trivial ⟨⟨hS.1, fun h _ => hS.2 h⟩, H⟩
    · have hil := (mem_ready.1 hr).1
      obtain ⟨hjl, oj, hoj, hall⟩ := mem_ready.1 hj
      have hno : ∀ e ∈ oj.after, Region.binds md e = true → e.on ≠ i := fun e he hb heq => not_both hil (heq ▸ hall e he hb)
      have hnn : (listed.setIfInBounds i true).getD n true = listed.getD n true := getD_set_ne true hin
      refine wpOp_mono (fun a' w' k => ?_) (wpOp_putIf hoj (hfree j oj hoj hji hjl hno) (fun cs b => hsel i oi cs b hi) (fun cs b => hsel j oj cs b hoj) hQ hy (H.2 j (ready_mono hj hji)))
      obtain ⟨hy', ⟨hT, hU⟩, hrest⟩ := k
      rw [hnn] at hU
      refine ⟨⟨hT, hU⟩, ih _ a' w' (fun m om hm hmi hml hmo => ?_) (ready_mono hr (Ne.symm hji)) hy' ⟨hT, fun h => ?_⟩ (by rw [Array.setIfInBounds_comm _ _ hji]; exact hrest)⟩
      · refine hfree m om hm hmi ?_ hmo
        rcases Decidable.em (j = m) with rfl | hjm
        · exact hjl
        · rw [getD_set_ne true hjm] at hml
          exact hml
      · rcases Decidable.em (j = n) with rfl | hjn
        · have hlt : j < listed.size := by
            rcases Nat.lt_or_ge j listed.size with h2 | h2
            · exact h2
            · simp [Array.getElem?_eq_none h2] at hjl
          simp [hlt] at h
        · rw [getD_set_ne true hjn] at h
          exact hU h hjn
theorem till_free {i : Nat} {oi : Oper} {v : Value} {fuel : Nat} {listed : Array Bool} {a : Act} {w : World} (hi : ops[i]? = some oi) (hin : i ≠ n)
    (hs : Region.noSelect ops = true) (hf : Region.free md ops listed i = true) (hr : (Region.ready md ops listed).contains i = true)
    (hQ : ∀ c a w, Q (.panic c) (a.put oi.dst v) w → Q (.panic c) a w) (hy : YieldsIf P ops (fun _ => True) oi v a) (hS : T w ∧ (listed.getD n true = false → U w))
    (h : wpTill P md ops Q n T U fuel (listed.setIfInBounds i true) (a.put oi.dst v) w) : wpTill P md ops Q n T U (fuel + 1) listed a w :=
  till_first0 hin hi (Region.noSelect_spec hs) hQ fuel listed a w (Region.free_spec hi hf) (by simpa using hr) hy hS h
/-- The same two, the slot told. -/
theorem till_takeD {i : Nat} {oi : Oper} {v : Value} {fuel : Nat} {listed : Array Bool} {a : Act} {w : World} (d : Option Nat) (hi : ops[i]? = some oi) (hd : oi.dst = d) (hw : waitsFor md ops listed n i (waiters md ops i) = true)
    (hs : Region.noSelect ops = true) (hf : Region.free md ops listed i = true) (hr : (Region.ready md ops listed).contains i = true)
    (hQ : ∀ c a w, Q (.panic c) (a.put oi.dst v) w → Q (.panic c) a w) (hy : YieldsIf P ops (fun w => T w ∧ U w) oi v a) (hS : T w ∧ U w)
    (h : wpTill P md ops Q n T U fuel (listed.setIfInBounds i true) (a.put d v) w) : wpTill P md ops Q n T U (fuel + 1) listed a w :=
  till_take hi hw hs hf hr hQ hy hS (hd ▸ h)
theorem till_freeD {i : Nat} {oi : Oper} {v : Value} {fuel : Nat} {listed : Array Bool} {a : Act} {w : World} (d : Option Nat) (hi : ops[i]? = some oi) (hd : oi.dst = d) (hin : i ≠ n)
    (hs : Region.noSelect ops = true) (hf : Region.free md ops listed i = true) (hr : (Region.ready md ops listed).contains i = true)
    (hQ : ∀ c a w, Q (.panic c) (a.put oi.dst v) w → Q (.panic c) a w) (hy : YieldsIf P ops (fun _ => True) oi v a) (hS : T w ∧ (listed.getD n true = false → U w))
    (h : wpTill P md ops Q n T U fuel (listed.setIfInBounds i true) (a.put d v) w) : wpTill P md ops Q n T U (fuel + 1) listed a w :=
  till_free hi hin hs hf hr hQ hy hS (hd ▸ h)
end
end Go.Proofs.YtjmnaipoccpbmaaDoor.P
