/- What Write, Size, Used, Fits answer for one mailbox: plain Lean over the printed functions. -/
import Derived.Test.YtbolikomoenmaaaDoorQr26
import Derived.Test.YtbolikomoenmaaaDoorQr33
import Derived.Test.YtbolikomoenmaaaDoorQr34
namespace Go.Proofs.YtbolikomoenmaaaDoor.P
open Go.RowKit Go.Proofs.YtbolikomoenmaaaDoorW.PrintWords Go.Proofs.YtbolikomoenmaaaDoorW.PrintLast Go.Proofs.YtbolikomoenmaaaDoorW.PrintMore
set_option linter.unusedVariables false
/-- What Write answers: the bytes of a message that is valid, else a fault. -/
theorem write_ev (l : List (S70)) (b : List Int) (hw : WFMsg l b) : ∃ (y : List Int) (q q' : Int), Ev (fun k => message_Write.f k l b) (y, q, q') ∧ y.length ≤ 12000 ∧ (q = 0 → q' = 0 ∧ MsgOk ⟨l, b⟩) ∧ (MsgOk ⟨l, b⟩ → q = 0) := by
  obtain ⟨r, hr, h⟩ := msg_ev2 l b hw
  by_cases c : r.1 = 0
  · obtain ⟨c2, -, -, y, hy, hl⟩ := h c
    have hm : MsgOk ⟨l, b⟩ := by have e : r = (0, 0) := Prod.ext c c2; rw [e] at hr; exact hr
    refine ⟨y ++ b, 0, 0, Ev.bind hr (f := fun k t => _) (Ev.congr (fun k => by rw [if_neg (by rw [c, c2]; decide)]) (Ev.bind (g := fun k => message_Bytes.f k l b) (Ev.bind hy (f := fun k (t : List Int) => if t.length + b.length ≤ 140737488355328 then some (t ++ b) else none) (Ev.congr (fun k => by rw [if_pos (by omega)]) (Ev.now _))) (f := fun k (t : List Int) => some (t, r.1, r.2)) (Ev.congr (fun k => by rw [c, c2]) (Ev.now _)))), by rw [List.length_append]; exact hl, fun _ => ⟨rfl, hm⟩, fun _ => rfl⟩
  · refine ⟨[], r.1, r.2, Ev.bind hr (f := fun k t => _) (Ev.congr (fun k => by rw [if_pos (by rw [Bool.or_eq_true]; left; simp [c])]) (Ev.now _)), by simp, fun h0 => absurd h0 c, fun hm => absurd (congrArg Prod.fst (Ev.uniq hr hm)) c⟩
def SizeIs (m : S31) (s : Nat) : Prop := Ev (fun k => quota_Size.f k m.f0 m.f1) (s : Int) ∧ s ≤ 12000
theorem size_ev (l : List (S70)) (b : List Int) (hw : WFMsg l b) : ∃ s, SizeIs ⟨l, b⟩ s ∧ ∀ (y : List Int) (q q' : Int), Ev (fun k => message_Write.f k l b) (y, q, q') → s = y.length := by
  obtain ⟨y, q, q', hy, hl, -⟩ := write_ev l b hw
  refine ⟨y.length, ⟨Ev.bind hy (f := fun k (t : List Int × Int × Int) => some ((t.1.length : Nat) : Int)) (Ev.now _), hl⟩, fun z p p' hz => ?_⟩
  exact congrArg List.length (congrArg Prod.fst (Ev.uniq hy hz))
theorem SizeIs.uniq {m : S31} {s s' : Nat} (h : SizeIs m s) (h' : SizeIs m s') : s = s' := by
  have := Ev.uniq h.1 h'.1
  omega
/-- The sizes of the messages of a mailbox, added up. -/
def Sizes : List (S68) → Nat → Prop
  | [], n => n = 0
  | x :: l, n => ∃ s m, SizeIs x.f4 s ∧ Sizes l m ∧ n = s + m
theorem Sizes.le : ∀ {l : List (S68)} {n : Nat}, Sizes l n → n ≤ 12000 * l.length
  | [], n, h => by rw [show n = 0 from h]; exact Nat.zero_le _
  | x :: l, n, h => by
    obtain ⟨s, m, h1, h2, rfl⟩ := h
    have := h1.2
    have := Sizes.le h2
    rw [List.length_cons]
    omega
theorem Sizes.uniq : ∀ {l : List (S68)} {n n' : Nat}, Sizes l n → Sizes l n' → n = n'
  | [], n, n', h, h' => by rw [show n = 0 from h, show n' = 0 from h']
  | x :: l, n, n', h, h' => by
    obtain ⟨s, m, h1, h2, rfl⟩ := h
    obtain ⟨s', m', h1', h2', rfl⟩ := h'
    rw [h1.uniq h1', Sizes.uniq h2 h2']
theorem Sizes.append : ∀ {l : List (S68)} {x : S68} {n s : Nat}, Sizes l n → SizeIs x.f4 s → Sizes (l ++ [x]) (n + s)
  | [], x, n, s, h, hx => ⟨s, 0, hx, rfl, by rw [show n = 0 from h]; omega⟩
  | y :: l, x, n, s, h, hx => by
    obtain ⟨t, m, h1, h2, rfl⟩ := h
    exact ⟨t, m + s, h1, Sizes.append h2 hx, by omega⟩
theorem Sizes.all : ∀ (l : List (S68)), (∀ x ∈ l, WFMsg x.f4.f0 x.f4.f1) → ∃ n, Sizes l n
  | [], _ => ⟨0, rfl⟩
  | x :: l, h => by
    obtain ⟨s, hs, -⟩ := size_ev x.f4.f0 x.f4.f1 (h x List.mem_cons_self)
    obtain ⟨m, hm⟩ := Sizes.all l (fun y hy => h y (List.mem_cons_of_mem _ hy))
    exact ⟨s + m, s, m, hs, hm, rfl⟩
/-- The inner round of sum. -/
theorem suml1_ev (x8 : List (S25)) (x9 x10 : Int) (l : List (S68)) (hl : l.length ≤ 1000) {r : Int × Int} : ∀ (t : List (S68)) (j : Nat) (n : Nat) (A B : Int), l.drop j = t → Sizes t n → 0 ≤ A → A + n ≤ 100000000 → 0 ≤ B → B + t.length ≤ 100000 → Ev (fun k => quota_sum.l0 k x8 x9 (wrap64 (x10 + 1)) (A + n) (B + t.length)) r → Ev (fun k => quota_sum.l1 k x8 x9 x10 l l.length j A B) r
  | [], j, n, A, B, hd, hs, a0, a1, b0, b1, h => by
    have hj : l.length ≤ j := List.drop_eq_nil_iff.1 hd
    have hn : n = 0 := hs
    subst hn
    exact Ev.step (fun k => by simp only [quota_sum.l1]; rw [if_neg (by omega)]) (by simpa using h)
  | x :: t, j, n, A, B, hd, hs, a0, a1, b0, b1, h => by
    obtain ⟨s, m, h1, h2, rfl⟩ := hs
    have hx : l[j]? = some x := by rw [← List.head?_drop, hd]; rfl
    have hj := (List.getElem?_eq_some_iff.1 hx).1
    have hd' : l.drop (j + 1) = t := by rw [← List.tail_drop, hd]; rfl
    rw [List.length_cons] at b1 h
    have ih := suml1_ev x8 x9 x10 l hl t (j + 1) m (A + s) (B + 1) hd' h2 (by omega) (by omega) (by omega) (by omega) (by
      rw [show A + (s : Int) + (m : Int) = A + ((s + m : Nat) : Int) from by omega, show B + 1 + (t.length : Int) = B + ((t.length + 1 : Nat) : Int) from by omega]; exact h)
    refine Ev.step (fun k => by simp only [quota_sum.l1]; rw [if_pos (by omega), if_pos (by omega), if_pos (by omega), rd_stored hx]) (Ev.bind (g := fun k => quota_Size.f k x.f4.f0 x.f4.f1) h1.1 (f := fun k u => quota_sum.l1 k x8 x9 x10 l l.length (wrap64 ((j : Int) + 1)) (wrap64 (A + u)) (wrap64 (B + 1))) (Ev.congr (fun k => ?_) ih))
    rw [wrap_succ (by omega) (by omega), wrap_succ (by omega) (by omega), show wrap64 (A + (s : Int)) = A + s from by unfold wrap64; omega]
    rfl
/-- What sum answers for one mailbox. -/
theorem sum_ev {a0 a1 a2 : Int} {l3 : List (S68)} {l4 : List (S72)} {n : Nat} (hl : l3.length ≤ 200) (hs : Sizes l3 n) : Ev (fun k => quota_sum.f k [⟨a0, a1, a2, l3, l4⟩]) ((n : Int), (l3.length : Int)) := by
  have hle := hs.le
  have h0 : Ev (fun k => quota_sum.l0 k [⟨a0, a1, a2, l3, l4⟩] 1 (wrap64 (0 + 1)) (0 + (n : Int)) (0 + (l3.length : Int))) ((n : Int), (l3.length : Int)) := Ev.one (fun k => by simp only [quota_sum.l0]; rw [if_neg (by unfold wrap64; omega), Int.zero_add, Int.zero_add])
  have h1 := suml1_ev [⟨a0, a1, a2, l3, l4⟩] 1 0 l3 (by omega) l3 0 n 0 0 rfl hs (by omega) (by omega) (by omega) (by omega) h0
  exact Ev.step (g := fun k => quota_sum.f k [⟨a0, a1, a2, l3, l4⟩]) (fun k => by unfold quota_sum.f; simp only [quota_sum.l0]; rfl) h1
def LimOk (m0 m1 : Int) : Prop := 0 ≤ m0 ∧ 0 ≤ m1 ∧ m0 ≤ 1099511627776 ∧ m1 ≤ 1000000
theorem limit_ev (m0 m1 : Int) : (LimOk m0 m1 ∧ quota_limit.f m0 m1 = some (0, 0)) ∨ quota_limit.f m0 m1 = some (3, -2) := by
  unfold quota_limit.f LimOk
  by_cases h1 : m0 < 0
  · right; rw [if_pos h1]
  by_cases h2 : m1 < 0
  · right; rw [if_neg h1, if_pos h2]
  by_cases h3 : m0 > 1099511627776
  · right; rw [if_neg h1, if_neg h2, if_pos h3]
  by_cases h4 : m1 > 1000000
  · right; rw [if_neg h1, if_neg h2, if_neg h3, if_pos h4]
  · left; exact ⟨by omega, by rw [if_neg h1, if_neg h2, if_neg h3, if_neg h4]⟩
end Go.Proofs.YtbolikomoenmaaaDoor.P
