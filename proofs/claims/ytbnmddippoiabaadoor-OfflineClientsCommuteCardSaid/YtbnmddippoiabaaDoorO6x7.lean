/- A region that draws its order, with a load of a cell that the region's own last store writes: what holds till that store has come up (U) beside what holds throughout (T). -/
import Derived.OrdersHeld
import Derived.Deep.RegionHeld
namespace Go.Proofs.YtbnmddippoiabaaDoor.P
set_option linter.unusedVariables false
section
variable {P : Program} {ops : Array Oper} {Q : Exit → Act → World → Prop} {md : Region.Mode} {n : Nat} {T U : World → Prop}
/-- Whatever order is picked from here on; behind each operation T holds, and U behind each but number n. -/
def wpTill (P : Program) (md : Region.Mode) (ops : Array Oper) (Q : Exit → Act → World → Prop) (n : Nat) (T U : World → Prop) : Nat → Array Bool → Act → World → Prop
  | 0, listed, a, w => Region.ready md ops listed = [] ∧ Q .normal a w
  | fuel + 1, listed, a, w => (Region.ready md ops listed = [] → Q .normal a w) ∧
    ∀ i ∈ Region.ready md ops listed, wpOp P ops Q i (fun a' w' => (T w' ∧ (listed.getD n true = false → i ≠ n → U w')) ∧ wpTill P md ops Q n T U fuel (listed.setIfInBounds i true) a' w') a w
theorem till_any : ∀ (fuel : Nat) (listed : Array Bool) (a : Act) (w : World), wpTill P md ops Q n T U fuel listed a w → wpAny P md ops Q fuel listed a w
  | 0, _, _, _, h => h
  | fuel + 1, _, _, _, h => ⟨h.1, fun i hi => wpOp_mono (fun a' w' k => till_any fuel _ a' w' k.2) (h.2 i hi)⟩
theorem not_both {listed : Array Bool} {i : Nat} (h0 : listed.getD i true = false) (h1 : listed.getD i false = true) : False := by
  rcases Nat.lt_or_ge i listed.size with h2 | h2
  · simp [h2] at h0 h1
    rw [h0] at h1
    cases h1
  · simp [Array.getElem?_eq_none h2] at h1
/-- Number i may be taken first if it yields its value wherever T and U hold, and number n is among those (W) that wait for it. -/
theorem till_first {i : Nat} {oi : Oper} {v : Value} {W : Nat → Prop} (hi : ops[i]? = some oi) (hn : W n) (hW : ∀ m, W m → ∃ om, ops[m]? = some om ∧ ∃ e ∈ om.after, Region.binds md e = true ∧ (e.on = i ∨ W e.on)) (hsel : ∀ (j : Nat) (o : Oper) cs b, ops[j]? = some o → o.op ≠ .select cs b)
    (hQ : ∀ c a w, Q (.panic c) (a.put oi.dst v) w → Q (.panic c) a w) : ∀ (fuel : Nat) (listed : Array Bool) (a : Act) (w : World),
      (∀ m, W m → listed.getD m true = false) →
      (∀ j oj, ops[j]? = some oj → j ≠ i → listed.getD j true = false → (∀ e ∈ oj.after, Region.binds md e = true → e.on ≠ i) → oi.apart ops oj = true) →
      i ∈ Region.ready md ops listed → YieldsIf P ops (fun w => T w ∧ U w) oi v a → T w ∧ U w →
      wpTill P md ops Q n T U fuel (listed.setIfInBounds i true) (a.put oi.dst v) w → wpTill P md ops Q n T U (fuel + 1) listed a w := by
  intro fuel
  induction fuel with
  | zero =>
    intro listed a w _ _ hr hy hS H
    refine ⟨(fun h => by rw [h] at hr; cases hr), fun j hj => ?_⟩
    rcases Decidable.em (j = i) with rfl | hji
    · exact hy.wpOp hi hS ⟨⟨hS.1, fun _ _ => hS.2⟩, H⟩
    · have h1 := ready_mono hj hji
      rw [H.1] at h1
      cases h1
  | succ fuel ih =>
    intro listed a w hWl hfree hr hy hS H
    refine ⟨(fun h => by rw [h] at hr; cases hr), fun j hj => ?_⟩
    rcases Decidable.em (j = i) with rfl | hji
    · exact hy.wpOp hi hS ⟨⟨hS.1, fun _ _ => hS.2⟩, H⟩
    · have hil := (mem_ready.1 hr).1
      obtain ⟨hjl, oj, hoj, hall⟩ := mem_ready.1 hj
      have hno : ∀ e ∈ oj.after, Region.binds md e = true → e.on ≠ i := fun e he hb heq => not_both hil (heq ▸ hall e he hb)
      have hjW : ¬ W j := fun hjw => by
        obtain ⟨om, hom, e, he, hb, h1 | h1⟩ := hW j hjw
        · rw [hoj] at hom
          injection hom with hom
          subst hom
          exact hno e he hb h1
        · rw [hoj] at hom
          injection hom with hom
          subst hom
          exact not_both (hWl _ h1) (hall e he hb)
      have hjn : j ≠ n := fun h => hjW (h ▸ hn)
      have hin : i ≠ n := fun h => by
        obtain ⟨om, hom, e, he, hb, h1⟩ := hW n hn
        rw [← h] at hom
        obtain ⟨_, oi', hoi, hall'⟩ := mem_ready.1 hr
        rw [hoi] at hom
        injection hom with hom
        subst hom
        rcases h1 with h1 | h1
        · exact not_both hil (h1 ▸ hall' e he hb)
        · exact not_both (hWl _ h1) (hall' e he hb)
      have hnl : (listed.setIfInBounds i true).getD n true = false := by rw [getD_set_ne true hin]; exact hWl n hn
      refine wpOp_mono (fun a' w' k => ?_) (wpOp_putIf hoj (hfree j oj hoj hji hjl hno) (fun cs b => hsel i oi cs b hi) (fun cs b => hsel j oj cs b hoj) hQ hy (H.2 j (ready_mono hj hji)))
      obtain ⟨hy', ⟨hT, hU⟩, hrest⟩ := k
      refine ⟨⟨hT, fun _ h => hU hnl h⟩, ih _ a' w' (fun m hm => ?_) (fun m om hm hmi hml hmo => ?_) (ready_mono hr (Ne.symm hji)) hy' ⟨hT, hU hnl hjn⟩ (by rw [Array.setIfInBounds_comm _ _ hji]; exact hrest)⟩
      · rw [getD_set_ne true (fun (h : j = m) => hjW (h ▸ hm))]
        exact hWl m hm
      · refine hfree m om hm hmi ?_ hmo
        rcases Decidable.em (j = m) with rfl | hjm
        · exact hjl
        · rw [getD_set_ne true hjm] at hml
          exact hml
/-- Those that wait for number i, one behind the other. -/
def waiters (md : Region.Mode) (ops : Array Oper) (i : Nat) : List Nat :=
  (List.range ops.size).foldl (fun acc j => match ops[j]? with | some o => if o.after.any (fun e => Region.binds md e && (e.on == i || acc.contains e.on)) then j :: acc else acc | none => acc) []
/-- Is W such a list, with n in it, none of them come up yet? -/
def waitsFor (md : Region.Mode) (ops : Array Oper) (listed : Array Bool) (n i : Nat) (W : List Nat) : Bool :=
  W.contains n && W.all fun m => (!listed.getD m true) && match ops[m]? with | some o => o.after.any (fun e => Region.binds md e && (e.on == i || W.contains e.on)) | none => false
theorem till_take {i : Nat} {oi : Oper} {v : Value} {fuel : Nat} {listed : Array Bool} {a : Act} {w : World} (hi : ops[i]? = some oi) (hw : waitsFor md ops listed n i (waiters md ops i) = true)
    (hs : Region.noSelect ops = true) (hf : Region.free md ops listed i = true) (hr : (Region.ready md ops listed).contains i = true)
    (hQ : ∀ c a w, Q (.panic c) (a.put oi.dst v) w → Q (.panic c) a w) (hy : YieldsIf P ops (fun w => T w ∧ U w) oi v a) (hS : T w ∧ U w)
    (h : wpTill P md ops Q n T U fuel (listed.setIfInBounds i true) (a.put oi.dst v) w) : wpTill P md ops Q n T U (fuel + 1) listed a w := by
  generalize waiters md ops i = W at hw
  unfold waitsFor at hw
  rw [Bool.and_eq_true, List.all_eq_true] at hw
  refine till_first (W := fun m => m ∈ W) hi (by simpa using hw.1) (fun m hm => ?_) (Region.noSelect_spec hs) hQ fuel listed a w (fun m hm => ?_) (Region.free_spec hi hf) (by simpa using hr) hy hS h
  · have h1 := hw.2 m hm
    rw [Bool.and_eq_true] at h1
    cases ho : ops[m]? with
    | none => rw [ho] at h1; cases h1.2
    | some o =>
      rw [ho] at h1
      have h2 := h1.2
      simp only [Array.any_eq_true] at h2
      obtain ⟨k, hk, he⟩ := h2
      rw [Bool.and_eq_true, Bool.or_eq_true, beq_iff_eq] at he
      exact ⟨o, rfl, _, Array.getElem_mem hk, he.1, he.2.imp id (fun h => by simpa using h)⟩
  · have h1 := hw.2 m hm
    rw [Bool.and_eq_true] at h1
    simpa using h1.1
def EachTill (P : Program) (md : Region.Mode) (ops : Array Oper) (Q : Exit → Act → World → Prop) (n : Nat) (T U : World → Prop) (fuel : Nat) (listed : Array Bool) (a : Act) (w : World) (rs : List Nat) : Prop :=
  ∀ i ∈ rs, wpOp P ops Q i (fun a' w' => (T w' ∧ (listed.getD n true = false → i ≠ n → U w')) ∧ wpTill P md ops Q n T U fuel (listed.setIfInBounds i true) a' w') a w
theorem each_nil {fuel : Nat} {listed : Array Bool} {a : Act} {w : World} : EachTill P md ops Q n T U fuel listed a w [] := fun _ h => by cases h
theorem each_cons {fuel : Nat} {listed : Array Bool} {a : Act} {w : World} {i : Nat} {o : Oper} {rs : List Nat} (ho : ops[i]? = some o)
    (h : ∀ K' : Act → World → Prop, Shut (∀ a w, T w → (listed.getD n true = false → i ≠ n → U w) → ((listed.getD n true = false → i ≠ n → T w ∧ U w) → wpTill P md ops Q n T U fuel (listed.setIfInBounds i true) a w) → K' a w) → if Region.wanted o (yielded ops a.tmps) = true then Oper.wp P o a w K' Q else K' (a.put o.dst undef) w)
    (hs : EachTill P md ops Q n T U fuel listed a w rs) : EachTill P md ops Q n T U fuel listed a w (i :: rs) := fun j hj => by
  rcases List.mem_cons.1 hj with rfl | hj
  · exact wpOp_step ho (fun K' hK => h K' (fun a w hT hU hW => hK a w ⟨⟨hT, hU⟩, hW (fun hn hi => ⟨hT, hU hn hi⟩)⟩))
  · exact hs j hj
theorem till_ready {rs : List Nat} {fuel : Nat} {listed : Array Bool} {a : Act} {w : World} (hr : Region.ready md ops listed = rs) (hne : rs ≠ [])
    (h : EachTill P md ops Q n T U fuel listed a w rs) : wpTill P md ops Q n T U (fuel + 1) listed a w := ⟨fun h0 => absurd (hr ▸ h0) hne, hr ▸ h⟩
/-- One alone may come up. -/
theorem till_one {i : Nat} {o : Oper} {fuel : Nat} {listed : Array Bool} {a : Act} {w : World} (hr : Region.ready md ops listed = [i]) (ho : ops[i]? = some o)
    (h : ∀ K' : Act → World → Prop, Shut (∀ a w, T w → (listed.getD n true = false → i ≠ n → U w) → ((listed.getD n true = false → i ≠ n → T w ∧ U w) → wpTill P md ops Q n T U fuel (listed.setIfInBounds i true) a w) → K' a w) → if Region.wanted o (yielded ops a.tmps) = true then Oper.wp P o a w K' Q else K' (a.put o.dst undef) w) :
    wpTill P md ops Q n T U (fuel + 1) listed a w := till_ready hr (by simp) (each_cons ho h each_nil)
theorem till_done {listed : Array Bool} {a : Act} {w : World} (hr : Region.ready md ops listed = []) (h : Q .normal a w) : ∀ fuel, wpTill P md ops Q n T U fuel listed a w
  | 0 => ⟨hr, h⟩
  | _ + 1 => ⟨fun _ => h, by rw [hr]; simp⟩
theorem region_till {id : Nat} {a : Act} {w : World} (n : Nat) (T U : World → Prop) (hm : P.follows .mixedOrders = true) (hTU : T w.drew ∧ U w.drew) (h : T w.drew ∧ U w.drew → wpTill P .any ops Q n T U ops.size (Array.replicate ops.size false) a w.drew) : (Code.region id ops true).wp P Q a w :=
  wp_region_any hm (till_any _ _ _ _ (h hTU))
end
end Go.Proofs.YtbnmddippoiabaaDoor.P
