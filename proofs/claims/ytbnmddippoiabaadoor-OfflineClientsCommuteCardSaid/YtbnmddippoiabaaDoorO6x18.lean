/- Several texts in one, each in its own section. The last: Functions of this seat as Lean functions, and that the Go code comes to their answers: written by a program of this session's. -/
import Derived.Test.YtbnmddippoiabaaDoorO6x11
import Derived.Test.YtbnmddippoiabaaDoorO6x17
import Derived.Test.YtbnmddippoiabaaDoorO6x10
/- The check of a message comes to an end for every message, and what it answers: plain Lean over the printed functions. -/
section
namespace Go.Proofs.YtbnmddippoiabaaDoor.P
open Go.RowKit Go.Proofs.YtbnmddippoiabaaDoorW.PrintWords Go.Proofs.YtbnmddippoiabaaDoorW.PrintLast Go.Proofs.YtbnmddippoiabaaDoorW.PrintMore
set_option linter.unusedVariables false
theorem Ev.one {α : Type} {g : Nat → Option α} {r : α} (h : ∀ k, g (k + 1) = some r) : Ev g r := ⟨1, fun k hk => by
  obtain ⟨m, rfl⟩ : ∃ m, k = m + 1 := ⟨k - 1, by omega⟩
  exact h m⟩
theorem Ev.uniq {α : Type} {g : Nat → Option α} {r r' : α} (h : Ev g r) (h' : Ev g r') : r = r' := by
  obtain ⟨K, h⟩ := h
  obtain ⟨K', h'⟩ := h'
  exact Option.some.inj ((h (max K K') (Nat.le_max_left _ _)).symm.trans (h' (max K K') (Nat.le_max_right _ _)))
theorem wrap_succ {i : Int} (h0 : -9223372036854775808 ≤ i) (h1 : i < 9223372036854775807) : wrap64 (i + 1) = i + 1 := by unfold wrap64; omega
theorem wrap_pred {i : Int} (h0 : -9223372036854775808 < i) (h1 : i ≤ 9223372036854775807) : wrap64 (i - 1) = i - 1 := by unfold wrap64; omega

theorem isName_ev (s : ByteArray) (hs : s.size ≤ 140737488351232) : ∀ (d : Nat) (i : Int), 0 ≤ i → i ≤ s.size → (s.size : Int) - i = d → ∃ b, Ev (fun k => fold_IsName.l0 k s s.size i) b ∧ (b = true → s.size ≤ 60)
  | 0, i, h0, h1, hd => by
    refine ⟨decide (1 ≤ s.size ∧ s.size ≤ 60), Ev.one (fun k => ?_), fun h => (of_decide_eq_true h).2⟩
    simp only [fold_IsName.l0]
    rw [if_neg (by omega)]
    by_cases h : 1 ≤ s.size
    · rw [if_pos (by omega)]; simp [h]; omega
    · rw [if_neg (by omega)]; simp [h]
  | d + 1, i, h0, h1, hd => by
    have hlt : i < (s.size : Int) := by omega
    obtain ⟨b, hb, hb2⟩ := isName_ev s hs d (i + 1) (by omega) (by omega) (by omega)
    by_cases c1 : bt s i ≤ 32
    · exact ⟨false, Ev.one (fun k => by simp only [fold_IsName.l0]; rw [if_pos hlt, if_pos h0, if_pos hlt, if_pos c1]), fun h => by cases h⟩
    by_cases c2 : bt s i > 126
    · exact ⟨false, Ev.one (fun k => by simp only [fold_IsName.l0]; rw [if_pos hlt, if_pos h0, if_pos hlt, if_neg c1, if_pos c2]), fun h => by cases h⟩
    by_cases c3 : bt s i = 58
    · exact ⟨false, Ev.one (fun k => by simp only [fold_IsName.l0]; rw [if_pos hlt, if_pos h0, if_pos hlt, if_neg c1, if_neg c2, if_pos c3]), fun h => by cases h⟩
    · exact ⟨b, Ev.step (fun k => by simp only [fold_IsName.l0]; rw [if_pos hlt, if_pos h0, if_pos hlt, if_neg c1, if_neg c2, if_neg c3, wrap_succ (by omega) (by omega)]) hb, hb2⟩
theorem check_ev (n v : ByteArray) (hn : n.size ≤ 140737488351232) : ∃ c, Ev (fun k => fold_Check.f k n v) c ∧ (c = 0 → n.size ≤ 60 ∧ v.size ≤ 4000) := by
  obtain ⟨b, hb, hb2⟩ := isName_ev n hn n.size 0 (by omega) (by omega) (by omega)
  cases b with
  | false => exact ⟨10, Ev.bind hb (f := fun k t => _) (Ev.now 10), fun h => by cases h⟩
  | true =>
    by_cases h1 : (v.size : Int) > 4000
    · exact ⟨1, Ev.bind hb (f := fun k t => _) (Ev.congr (fun k => by rw [if_pos rfl, if_pos h1]) (Ev.now 1)), fun h => by cases h⟩
    · have hc : strings_ContainsAny.f v (⟨#[13, 10, 0]⟩ : ByteArray) = some (Lib.containsAny v.data.toList [13, 10, 0]) := by
        unfold strings_ContainsAny.f
        rw [if_pos ⟨by omega, by decide, by decide, by decide⟩]
      have ht : ∃ t, strings_Trim.f v (⟨#[32, 9]⟩ : ByteArray) = some t := by
        unfold strings_Trim.f
        rw [if_pos ⟨by omega, by decide, by decide⟩]
        exact ⟨_, rfl⟩
      obtain ⟨t, ht⟩ := ht
      cases hx : Lib.containsAny v.data.toList [13, 10, 0] with
      | true => exact ⟨11, Ev.bind hb (f := fun k t => _) (Ev.congr (fun k => by rw [if_pos rfl, if_neg h1, hc, hx]; rfl) (Ev.now 11)), fun h => by cases h⟩
      | false =>
        by_cases h2 : t.toList = v.toList
        · exact ⟨0, Ev.bind hb (f := fun k t => _) (Ev.congr (fun k => by rw [if_pos rfl, if_neg h1, hc, hx, ht]; simp only [Option.bind_some]; rw [if_neg (by simp), if_pos h2]) (Ev.now 0)), fun _ => ⟨hb2 rfl, by omega⟩⟩
        · exact ⟨11, Ev.bind hb (f := fun k t => _) (Ev.congr (fun k => by rw [if_pos rfl, if_neg h1, hc, hx, ht]; simp only [Option.bind_some]; rw [if_neg (by simp), if_neg h2]) (Ev.now 11)), fun h => by cases h⟩

theorem cut_ev (s : ByteArray) (hs : s.size ≤ 140737488351232) : ∀ (d : Nat) (best i : Int), 1 ≤ i → (s.size : Int) + 1 - i ≤ d → 1 ≤ best → best ≤ s.size → ∃ t, Ev (fun k => fold_cut.l0 k s best i) t ∧ 1 ≤ t ∧ t ≤ s.size
  | 0, best, i, h0, hd, b0, b1 => ⟨best, Ev.one (fun k => by simp only [fold_cut.l0]; rw [if_neg (by omega)]), b0, b1⟩
  | d + 1, best, i, h0, hd, b0, b1 => by
    by_cases hlt : i < (s.size : Int)
    · obtain ⟨t, ht, ht2⟩ := cut_ev s hs d best (i + 1) (by omega) (by omega) b0 b1
      obtain ⟨u, hu, hu2⟩ := cut_ev s hs d i (i + 1) (by omega) (by omega) h0 (by omega)
      have hw : wrap64 (i + 1) = i + 1 := wrap_succ (by omega) (by omega)
      have hp : wrap64 (i - 1) = i - 1 := wrap_pred (by omega) (by omega)
      have j1t : Ev (fun k => fold_cut.j1 k s best i true) t := Ev.step (fun k => by simp only [fold_cut.j1]; rw [if_pos (by simp), hw]) ht
      have j2 : ∀ c, ∃ r, Ev (fun k => fold_cut.j2 k s best i c) r ∧ 1 ≤ r ∧ r ≤ s.size := fun c => by
        cases c with
        | true =>
          by_cases c1 : i > 78
          · exact ⟨i, Ev.one (fun k => by simp only [fold_cut.j2]; rw [if_pos (by simp), if_pos c1]), h0, by omega⟩
          · exact ⟨u, Ev.step (fun k => by simp only [fold_cut.j2]; rw [if_pos (by simp), if_neg c1, hw]) hu, hu2⟩
        | false =>
          by_cases c1 : i > 78
          · exact ⟨best, Ev.one (fun k => by simp only [fold_cut.j2]; rw [if_neg (by simp), if_pos c1]), b0, b1⟩
          · exact ⟨t, Ev.step (fun k => by simp only [fold_cut.j2]; rw [if_neg (by simp), if_neg c1, hw]) ht, ht2⟩
      have j1f : ∃ r, Ev (fun k => fold_cut.j1 k s best i false) r ∧ 1 ≤ r ∧ r ≤ s.size := by
        by_cases c1 : i ≤ 78
        · obtain ⟨r, hr, h⟩ := j2 true
          exact ⟨r, Ev.step (fun k => by simp only [fold_cut.j1]; rw [if_neg (by simp), if_pos c1]) hr, h⟩
        · obtain ⟨r, hr, h⟩ := j2 (best == (s.size : Int))
          exact ⟨r, Ev.step (fun k => by simp only [fold_cut.j1]; rw [if_neg (by simp), if_neg c1]) hr, h⟩
      have hb : ∀ x, ∃ b, fold_isBlank.f x = some b := fun x => by unfold fold_isBlank.f; (repeat' split) <;> exact ⟨_, rfl⟩
      obtain ⟨p, hp1⟩ := hb (bt s i)
      obtain ⟨q, hq1⟩ := hb (bt s (i - 1))
      cases p with
      | false => exact ⟨t, Ev.step (fun k => by simp only [fold_cut.l0]; rw [if_pos hlt, if_pos (by omega), hp1]; simp only [Option.bind_some]; rw [if_neg (by simp)]) j1t, ht2⟩
      | true =>
        cases q with
        | true => exact ⟨t, Ev.step (fun k => by simp only [fold_cut.l0]; rw [if_pos hlt, if_pos (by omega), hp1]; simp only [Option.bind_some]; rw [if_pos (by simp), hp, if_pos (by omega), if_pos (by omega), hq1]; simp only [Option.bind_some]) j1t, ht2⟩
        | false =>
          obtain ⟨r, hr, h⟩ := j1f
          exact ⟨r, Ev.step (fun k => by simp only [fold_cut.l0]; rw [if_pos hlt, if_pos (by omega), hp1]; simp only [Option.bind_some]; rw [if_pos (by simp), hp, if_pos (by omega), if_pos (by omega), hq1]; simp only [Option.bind_some]) hr, h⟩
    · exact ⟨best, Ev.one (fun k => by simp only [fold_cut.l0]; rw [if_neg hlt]), b0, b1⟩
theorem cutf_ev (s : ByteArray) (i : Int) (hs : s.size ≤ 140737488351232) (h0 : 1 ≤ i) (h1 : 1 ≤ s.size) : ∃ t, Ev (fun k => fold_cut.f k s i) t ∧ 1 ≤ t ∧ t ≤ s.size := by
  by_cases c : (s.size : Int) ≤ 78
  · exact ⟨s.size, Ev.congr (fun k => by unfold fold_cut.f; rw [if_pos c]) (Ev.now _), by omega, by omega⟩
  · obtain ⟨t, ht, h⟩ := cut_ev s hs (s.size + 1) s.size i h0 (by omega) (by omega) (by omega)
    exact ⟨t, Ev.congr (fun k => by unfold fold_cut.f; rw [if_neg c]) ht, h⟩
theorem toList_nil {s : ByteArray} : s.toList = [] ↔ s.size = 0 := by
  rw [Lib.toList_data, Lib.size_eq]
  exact ⟨fun h => by rw [h]; rfl, fun h => List.eq_nil_of_length_eq_zero h⟩
/-- The sizes of lines, added up. -/
def lsum (l : List ByteArray) : Nat := (l.map (·.size)).sum
theorem lines_ev : ∀ (d : Nat) (s : ByteArray) (acc : List ByteArray) (i : Int), s.size ≤ d → s.size ≤ 1000000 → 1 ≤ i → acc.length + s.size ≤ 1000000 → ∃ l, Ev (fun k => fold_Lines.l0 k s acc i) l ∧ l.length ≤ acc.length + s.size ∧ lsum l = lsum acc + s.size
  | 0, s, acc, i, hd, hs, hi, ha => by
    have h0 : s.size = 0 := by omega
    exact ⟨acc, Ev.one (fun k => by simp only [fold_Lines.l0]; rw [if_pos (toList_nil.2 h0)]), by omega, by omega⟩
  | d + 1, s, acc, i, hd, hs, hi, ha => by
    by_cases h0 : s.size = 0
    · exact ⟨acc, Ev.one (fun k => by simp only [fold_Lines.l0]; rw [if_pos (toList_nil.2 h0)]), by omega, by omega⟩
    · obtain ⟨t, ht, t0, t1⟩ := cutf_ev s i (by omega) hi (by omega)
      have e1 : (s.extract t.toNat s.size).size = s.size - t.toNat := by rw [ByteArray.size_extract]; omega
      have e2 : (s.extract 0 t.toNat).size = t.toNat := by rw [ByteArray.size_extract]; omega
      obtain ⟨l, hl, l1, l2⟩ := lines_ev d (s.extract t.toNat s.size) (acc ++ [s.extract 0 t.toNat]) 1 (by omega) (by omega) (by omega) (by rw [List.length_append]; simp only [List.length_singleton]; omega)
      refine ⟨l, Ev.step (f := fun k => (fold_cut.f k s i).bind fun t103 => (if 0 ≤ t103 then (if t103 ≤ (s.size : Int) then (if acc.length < 8796093022208 then (fold_Lines.l0 k (s.extract (t103 : Int).toNat s.size) (acc ++ [s.extract 0 (t103 : Int).toNat]) 1) else none) else none) else none)) (fun k => by simp only [fold_Lines.l0]; rw [if_neg (fun h => h0 (toList_nil.1 h))]) (Ev.bind ht (Ev.congr (fun k => by rw [if_pos (by omega), if_pos (by omega), if_pos (by omega)]) hl)), ?_, ?_⟩
      · rw [List.length_append, e1] at l1; simp only [List.length_singleton] at l1; omega
      · rw [l2, e1, lsum, List.map_append, List.sum_append]; simp only [List.map_cons, List.map_nil, List.sum_cons, List.sum_nil, e2, lsum]; omega
theorem linesf_ev (n v : ByteArray) (hn : n.size ≤ 60) (hv : v.size ≤ 4000) : ∃ l, Ev (fun k => fold_Lines.f k n v) l ∧ l.length ≤ 4062 ∧ lsum l ≤ 4062 := by
  have e0 : (n ++ (⟨#[58, 32]⟩ : ByteArray)).size = n.size + 2 := by rw [ByteArray.size_append]; rfl
  have e1 : ((n ++ (⟨#[58, 32]⟩ : ByteArray)) ++ v).size = n.size + 2 + v.size := by rw [ByteArray.size_append, e0]
  obtain ⟨l, hl, l1, l2⟩ := lines_ev _ ((n ++ (⟨#[58, 32]⟩ : ByteArray)) ++ v) [] ((n.size : Int) + 3) (Nat.le_refl _) (by rw [e1]; omega) (by omega) (by rw [e1]; simp only [List.length_nil]; omega)
  refine ⟨l, Ev.congr (fun k => ?_) hl, by rw [e1] at l1; simp only [List.length_nil] at l1; omega, by rw [l2, e1]; simp only [lsum, List.map_nil, List.sum_nil]; omega⟩
  unfold fold_Lines.f
  rw [if_pos (by omega), if_pos (by rw [e0]; omega), show wrap64 ((n.size : Int) + 3) = (n.size : Int) + 3 from by unfold wrap64; omega]
theorem foldl_ev (l ls : List ByteArray) (hl : l.length ≤ 1000000) : ∀ (d : Nat) (i : Int), 0 ≤ i → i ≤ l.length → (l.length : Int) - i = d → ∃ r, Ev (fun k => fold_Fold.l0 k ls l l.length i) r ∧ (r.2.1 = 0 → r.2.2 = 0)
  | 0, i, h0, h1, hd => ⟨(ls, 0, 0), Ev.one (fun k => by simp only [fold_Fold.l0]; rw [if_neg (by omega)]), fun _ => rfl⟩
  | d + 1, i, h0, h1, hd => by
    have hlt : i < (l.length : Int) := by omega
    obtain ⟨r, hr, h⟩ := foldl_ev l ls hl d (i + 1) (by omega) (by omega) (by omega)
    by_cases c : ((rdOf ByteArray.empty l i).size : Int) > 998
    · exact ⟨([], 1, i), Ev.one (fun k => by simp only [fold_Fold.l0]; rw [if_pos hlt, if_pos h0, if_pos hlt, if_pos c]), fun h => by cases h⟩
    · exact ⟨r, Ev.step (fun k => by simp only [fold_Fold.l0]; rw [if_pos hlt, if_pos h0, if_pos hlt, if_neg c, wrap_succ (by omega) (by omega)]) hr, h⟩
theorem fold_ev (n v : ByteArray) (hn : n.size ≤ 140737488351232) : ∃ r, Ev (fun k => fold_Fold.f k n v) r ∧ (r.2.1 = 0 → r.2.2 = 0 ∧ n.size ≤ 60 ∧ v.size ≤ 4000) := by
  obtain ⟨c, hc, hc2⟩ := check_ev n v hn
  by_cases h : c = 0
  · obtain ⟨hn2, hv⟩ := hc2 h
    obtain ⟨l, hl, l1, l2⟩ := linesf_ev n v hn2 hv
    obtain ⟨r, hr, hr2⟩ := foldl_ev l l (by omega) l.length 0 (by omega) (by omega) (by omega)
    exact ⟨r, Ev.bind hc (f := fun k t => _) (Ev.congr (fun k => by rw [if_pos h]) (Ev.bind hl (f := fun k t112 => fold_Fold.l0 k t112 t112 (t112.length : Int) 0) hr)), fun h => ⟨hr2 h, hn2, hv⟩⟩
  · exact ⟨([], c, -1), Ev.bind hc (f := fun k t => _) (Ev.congr (fun k => by rw [if_neg h]) (Ev.now _)), fun h' => absurd h' h⟩
theorem rd_mem {l : List (S98)} {i : Int} (h0 : 0 ≤ i) (h1 : i < l.length) : rd_T98 l i ∈ l := by
  rw [rd_T98, List.getD_eq_getElem?_getD, List.getElem?_eq_getElem (by omega)]
  exact List.getElem_mem _
theorem headl_ev (l : List (S98)) (hl : l.length ≤ 60) (hw : ∀ x ∈ l, WFField x) : ∀ (d : Nat) (i : Int), 0 ≤ i → i ≤ l.length → (l.length : Int) - i = d → ∃ r, Ev (fun k => header_Validate.l0 k l l.length i) r ∧ (r.1 = 0 → r.2 = 0 ∧ ∀ j : Int, i ≤ j → j < l.length → (rd_T98 l j).f0.size ≤ 60 ∧ (rd_T98 l j).f1.size ≤ 4000)
  | 0, i, h0, h1, hd => ⟨(0, 0), Ev.one (fun k => by simp only [header_Validate.l0]; rw [if_neg (by omega)]), fun _ => ⟨rfl, fun j hj hj2 => by omega⟩⟩
  | d + 1, i, h0, h1, hd => by
    have hlt : i < (l.length : Int) := by omega
    obtain ⟨r, hr, hr2⟩ := headl_ev l hl hw d (i + 1) (by omega) (by omega) (by omega)
    obtain ⟨q, hq, hq2⟩ := fold_ev (rd_T98 l i).f0 (rd_T98 l i).f1 (hw _ (rd_mem h0 hlt)).1
    have st : ∀ k, header_Validate.l0 (k + 1) l l.length i = (fold_Fold.f k (rd_T98 l i).f0 (rd_T98 l i).f1).bind fun bt119 => (if (!(bt119.2.1 == 0) || (!(bt119.2.2 == 0))) = true then (some (bt119.2.1, i)) else (header_Validate.l0 k l l.length (wrap64 (i + 1)))) := fun k => by simp only [header_Validate.l0]; rw [if_pos hlt, if_pos h0, if_pos hlt]
    by_cases c : q.2.1 = 0
    · obtain ⟨c2, c3, c4⟩ := hq2 c
      refine ⟨r, Ev.step st (Ev.bind hq (Ev.congr (fun k => by rw [if_neg (by rw [c, c2]; decide), wrap_succ (by omega) (by omega)]) hr)), fun h => ⟨(hr2 h).1, fun j hj hj2 => ?_⟩⟩
      by_cases e : j = i
      · rw [e]; exact ⟨c3, c4⟩
      · exact (hr2 h).2 j (by omega) hj2
    · exact ⟨(q.2.1, i), Ev.step st (Ev.bind hq (Ev.congr (fun k => by rw [if_pos (by rw [Bool.or_eq_true]; left; simp [c])]) (Ev.now _))), fun h => absurd h c⟩
theorem head_ev (l : List (S98)) (hw : ∀ x ∈ l, WFField x) : ∃ r, Ev (fun k => header_Validate.f k l) r ∧ (r.1 = 0 → r.2 = 0 ∧ l.length ≤ 60 ∧ ∀ j : Int, 0 ≤ j → j < l.length → (rd_T98 l j).f0.size ≤ 60 ∧ (rd_T98 l j).f1.size ≤ 4000) := by
  by_cases c : (l.length : Int) > 60
  · exact ⟨(2, -1), Ev.congr (fun k => by unfold header_Validate.f; rw [if_pos c]) (Ev.now _), fun h => by cases h⟩
  · obtain ⟨r, hr, hr2⟩ := headl_ev l (by omega) hw l.length 0 (by omega) (by omega) (by omega)
    exact ⟨r, Ev.congr (fun k => by unfold header_Validate.f; rw [if_neg c]) hr, fun h => ⟨(hr2 h).1, by omega, (hr2 h).2⟩⟩
theorem bytesl1_ev (l : List (S98)) (n i : Int) (ls : List ByteArray) (hls : ls.length ≤ 4062) {P : List Int → Prop} (B : Nat) (hB : B ≤ 1000000) (next : ∀ x, x.length ≤ B → ∃ r, Ev (fun k => header_Bytes.l0 k x l n (wrap64 (i + 1))) r ∧ P r) :
    ∀ (d : Nat) (x : List Int) (j : Int), 0 ≤ j → j ≤ ls.length → (ls.length : Int) - j = d → x.length + lsum (ls.drop j.toNat) + 2 * d ≤ B → ∃ r, Ev (fun k => header_Bytes.l1 k x l n i ls ls.length j) r ∧ P r
  | 0, x, j, h0, h1, hd, hx => by
    obtain ⟨r, hr, h⟩ := next x (by omega)
    exact ⟨r, Ev.step (fun k => by simp only [header_Bytes.l1]; rw [if_neg (by omega)]) hr, h⟩
  | d + 1, x, j, h0, h1, hd, hx => by
    have hlt : j < (ls.length : Int) := by omega
    have hget : ls.drop j.toNat = rdOf ByteArray.empty ls j :: ls.drop (j.toNat + 1) := by
      rw [rdOf, List.getD_eq_getElem?_getD, List.getElem?_eq_getElem (by omega : j.toNat < ls.length)]
      exact List.drop_eq_getElem_cons (by omega)
    have hsum : lsum (ls.drop j.toNat) = (rdOf ByteArray.empty ls j).size + lsum (ls.drop (j.toNat + 1)) := by rw [hget]; simp [lsum]
    have hlen : (x ++ bytesOf (rdOf ByteArray.empty ls j)).length = x.length + (rdOf ByteArray.empty ls j).size := by rw [List.length_append, bytesOf_length]
    have hj : (j + 1).toNat = j.toNat + 1 := by omega
    obtain ⟨r, hr, h⟩ := bytesl1_ev l n i ls hls B hB next d (x ++ bytesOf (rdOf ByteArray.empty ls j) ++ bytesOf (⟨#[13, 10]⟩ : ByteArray)) (j + 1) (by omega) (by omega) (by omega) (by rw [List.length_append, hlen, bytesOf_length, hj]; show _ + 2 + _ + _ ≤ B; omega)
    exact ⟨r, Ev.step (fun k => by simp only [header_Bytes.l1]; rw [if_pos hlt, if_pos h0, if_pos hlt, if_pos (by omega)]; simp only [Option.bind_some]; rw [if_pos (by rw [hlen]; omega), wrap_succ (by omega) (by omega)]) hr, h⟩
theorem bytesl_ev (l : List (S98)) (hl : l.length ≤ 60) (hf : ∀ j : Int, 0 ≤ j → j < l.length → (rd_T98 l j).f0.size ≤ 60 ∧ (rd_T98 l j).f1.size ≤ 4000) : ∀ (d : Nat) (i : Int) (x : List Int), 0 ≤ i → i ≤ l.length → (l.length : Int) - i = d → x.length ≤ 12186 * (60 - d) → d ≤ 60 → ∃ r, Ev (fun k => header_Bytes.l0 k x l l.length i) r ∧ r.length ≤ 731162
  | 0, i, x, h0, h1, hd, hx, _ => ⟨x ++ bytesOf (⟨#[13, 10]⟩ : ByteArray), Ev.one (fun k => by simp only [header_Bytes.l0]; rw [if_neg (by omega), if_pos (by omega)]), by rw [List.length_append, bytesOf_length]; show _ + 2 ≤ _; omega⟩
  | d + 1, i, x, h0, h1, hd, hx, hd60 => by
    have hlt : i < (l.length : Int) := by omega
    obtain ⟨f1, f2⟩ := hf i h0 hlt
    obtain ⟨ls, hls, n1, n2⟩ := linesf_ev _ _ f1 f2
    obtain ⟨r, hr, h⟩ := bytesl1_ev l l.length i ls n1 (12186 * (60 - d)) (by omega) (fun y hy => by rw [wrap_succ (by omega) (by omega)]; exact bytesl_ev l hl hf d (i + 1) y (by omega) (by omega) (by omega) hy (by omega)) ls.length x 0 (by omega) (by omega) (by omega) (by simp only [Int.toNat_zero, List.drop_zero]; omega)
    exact ⟨r, Ev.step (fun k => by simp only [header_Bytes.l0]; rw [if_pos hlt, if_pos h0, if_pos hlt]) (Ev.bind hls hr), h⟩
theorem body_ev (b : List Int) (hb : b.length ≤ 9223372036854775000) : ∀ (d : Nat) (c i : Int), 0 ≤ i → 0 ≤ c → c ≤ i → (b.length : Int) - i ≤ d → ∃ r, Ev (fun k => message_Body.l0 k b c i) r ∧ (r.1 = 0 → r.2 = 0)
  | 0, c, i, h0, c0, c1, hd => ⟨(0, 0), Ev.one (fun k => by simp only [message_Body.l0]; rw [if_neg (by omega)]), fun _ => rfl⟩
  | d + 1, c, i, h0, c0, c1, hd => by
    by_cases hlt : i < (b.length : Int)
    · have hw : wrap64 (i + 1) = i + 1 := wrap_succ (by omega) (by omega)
      have j2 : ∀ x, ∃ r, Ev (fun k => message_Body.j2 k b c i x) r ∧ (r.1 = 0 → r.2 = 0) := fun x => by
        cases x with
        | true => exact ⟨(11, -5), Ev.one (fun k => by simp only [message_Body.j2]; rw [if_pos (by simp)]), fun h => by cases h⟩
        | false =>
          have hc : wrap64 (c + 1) = c + 1 := wrap_succ (by omega) (by omega)
          by_cases c3 : c + 1 > 998
          · exact ⟨(1, -6), Ev.one (fun k => by simp only [message_Body.j2]; rw [if_neg (by simp), hc, if_pos c3]), fun h => by cases h⟩
          · obtain ⟨r, hr, h⟩ := body_ev b hb d (c + 1) (i + 1) (by omega) (by omega) (by omega) (by omega)
            exact ⟨r, Ev.step (fun k => by simp only [message_Body.j2]; rw [if_neg (by simp), hc, if_neg c3, hw]) hr, h⟩
      have j1 : ∀ y x, ∃ r, Ev (fun k => message_Body.j1 k b c i y x) r ∧ (r.1 = 0 → r.2 = 0) := fun y x => by
        cases x with
        | true =>
          obtain ⟨r, hr, h⟩ := body_ev b hb d 0 (i + 1 + 1) (by omega) (by omega) (by omega) (by omega)
          exact ⟨r, Ev.step (fun k => by simp only [message_Body.j1]; rw [if_pos (by simp), hw, wrap_succ (by omega) (by omega)]) hr, h⟩
        | false =>
          by_cases cy : y = 13
          · obtain ⟨r, hr, h⟩ := j2 true
            exact ⟨r, Ev.step (fun k => by simp only [message_Body.j1]; rw [if_neg (by simp), if_pos cy]) hr, h⟩
          · obtain ⟨r, hr, h⟩ := j2 (y == 10)
            exact ⟨r, Ev.step (fun k => by simp only [message_Body.j1]; rw [if_neg (by simp), if_neg cy]) hr, h⟩
      by_cases c13 : rd b i = 13
      · by_cases cn : i + 1 < (b.length : Int)
        · obtain ⟨r, hr, h⟩ := j1 (rd b i) (rd b (i + 1) == 10)
          exact ⟨r, Ev.step (fun k => by simp only [message_Body.l0]; rw [if_pos hlt, if_pos h0, if_pos c13, hw, if_pos cn, if_pos (by omega)]) hr, h⟩
        · obtain ⟨r, hr, h⟩ := j1 (rd b i) false
          exact ⟨r, Ev.step (fun k => by simp only [message_Body.l0]; rw [if_pos hlt, if_pos h0, if_pos c13, hw, if_neg cn]) hr, h⟩
      · obtain ⟨r, hr, h⟩ := j1 (rd b i) false
        exact ⟨r, Ev.step (fun k => by simp only [message_Body.l0]; rw [if_pos hlt, if_pos h0, if_neg c13]) hr, h⟩
    · exact ⟨(0, 0), Ev.one (fun k => by simp only [message_Body.l0]; rw [if_neg hlt]), fun _ => rfl⟩
/-- THE CHECK OF A MESSAGE: it answers; where its code is 0 its index is 0, too, and the message is small. -/
theorem msg_ev2 (l : List (S98)) (b : List Int) (hw : WFMsg l b) : ∃ r, Ev (fun k => message_Validate.f k l b) r ∧ (r.1 = 0 → r.2 = 0 ∧ l.length ≤ 60 ∧ b.length ≤ 12000 ∧ ∃ y, Ev (fun k => header_Bytes.f k l) y ∧ y.length + b.length ≤ 12000) := by
  obtain ⟨q, hq, hq2⟩ := head_ev l hw.2.2
  by_cases c : q.1 = 0
  · obtain ⟨c2, c3, c4⟩ := hq2 c
    have st : ∀ (X : Nat → Option (Int × Int)) k, (if (!(q.1 == 0) || (!(q.2 == 0))) = true then some (q.1, q.2) else X k) = X k := fun X k => by rw [if_neg (by rw [c, c2]; decide)]
    by_cases c5 : (b.length : Int) > 12000
    · exact ⟨(1, -4), Ev.bind hq (f := fun k t => _) (Ev.congr (st _) (Ev.congr (fun k => by rw [if_pos c5]) (Ev.now _))), fun h => by cases h⟩
    · obtain ⟨y, hy, hy2⟩ := bytesl_ev l c3 c4 l.length 0 [] (by omega) (by omega) (by omega) (by simp) c3
      have hy' : Ev (fun k => header_Bytes.f k l) y := hy
      by_cases c6 : wrap64 ((y.length : Int) + (b.length : Int)) > 12000
      · exact ⟨(1, -4), Ev.bind hq (f := fun k t => _) (Ev.congr (st _) (Ev.congr (fun k => by rw [if_neg c5]) (Ev.bind hy' (f := fun k (t148 : List Int) => if (wrap64 ((t148.length : Int) + (b.length : Int))) > 12000 then (some ((1 : Int), (-4 : Int))) else ((message_Body.f k b).bind fun bt151 => (some (bt151.1, bt151.2)))) (Ev.congr (fun k => by rw [if_pos c6]) (Ev.now _))))), fun h => by cases h⟩
      · obtain ⟨z, hz, hz2⟩ := body_ev b (by omega) b.length 0 0 (by omega) (by omega) (by omega) (by omega)
        exact ⟨z, Ev.bind hq (f := fun k t => _) (Ev.congr (st _) (Ev.congr (fun k => by rw [if_neg c5]) (Ev.bind hy' (f := fun k (t148 : List Int) => if (wrap64 ((t148.length : Int) + (b.length : Int))) > 12000 then (some ((1 : Int), (-4 : Int))) else ((message_Body.f k b).bind fun bt151 => (some (bt151.1, bt151.2)))) (Ev.congr (fun k => by rw [if_neg c6]) (Ev.bind (g := fun k => message_Body.f k b) hz (f := fun k (t : Int × Int) => some (t.1, t.2)) (Ev.now _)))))), fun h => ⟨hz2 h, c3, by omega, y, hy', by unfold wrap64 at c6; omega⟩⟩
  · exact ⟨(q.1, q.2), Ev.bind hq (f := fun k t => _) (Ev.congr (fun k => by rw [if_pos (by rw [Bool.or_eq_true]; left; simp [c])]) (Ev.now _)), fun h => absurd h c⟩
theorem msg_ev (l : List (S98)) (b : List Int) (hw : WFMsg l b) : ∃ r, Ev (fun k => message_Validate.f k l b) r ∧ (r.1 = 0 → r.2 = 0 ∧ l.length ≤ 60 ∧ b.length ≤ 12000) := by
  obtain ⟨r, hr, h⟩ := msg_ev2 l b hw
  exact ⟨r, hr, fun h0 => ⟨(h h0).1, (h h0).2.1, (h h0).2.2.1⟩⟩
end Go.Proofs.YtbnmddippoiabaaDoor.P
end
/- Functions of this seat as Lean functions, and that the Go code comes to their answers: written by a program of this session's. -/
section
namespace Go.Proofs.YtbnmddippoiabaaDoor.P
open Go.RowKit Go.Proofs.YtbnmddippoiabaaDoorW.PrintWords Go.Proofs.YtbnmddippoiabaaDoorW.PrintLast Go.Proofs.YtbnmddippoiabaaDoorW.PrintMore
attribute [local go_sem] max2_int min2_int max_two min_two max_three min_three max_four min_four   -- for this text's walks alone
set_option linter.unusedVariables false
set_option linter.unusedSimpArgs false

/-! ### mailbox_fault: function 34 -/
def mailbox_fault.f (a0 : Int) (a1 : Int) : Option (Int × Int) := some (a0, a1)
theorem mailbox_fault_any (a b : Int) (w : World) : Calls Tryd.prog 34 #[.int .i64 a, .int .i64 b] w fun e w' => e = .returned (.agg #[.int .i64 a, .int .i64 b]) ∧ w' = w.alloc (.cells #[.int .i64 a, .int .i64 b] 29) := by
  have hu := Tryd.underlying29
  go_enter Tryd.func34, Tryd.ntmps34
  go_wp2
  exact bodyPost_ret (v := .agg #[.int .i64 a, .int .i64 b]) (by simp [results, Tryd.results34, go_sem]) rfl ⟨rfl, rfl⟩
theorem mailbox_fault.calls (a0 : Int) (a1 : Int) (r1 : Int) (r2 : Int) (w : World) (h : mailbox_fault.f a0 a1 = some (r1, r2)) :
    Calls Tryd.prog 34 #[.int .i64 a0, .int .i64 a1] w fun e w' => e = .returned (.agg #[.int .i64 r1, .int .i64 r2]) ∧ Below w.heap.size w w' := by
  obtain ⟨rfl, rfl⟩ : a0 = r1 ∧ a1 = r2 := by simpa [mailbox_fault.f] using h
  exact (mailbox_fault_any a0 a1 w).mono (by rintro e w' ⟨rfl, rfl⟩; exact ⟨rfl, below_alloc (Below.refl _ _) _⟩)


end Go.Proofs.YtbnmddippoiabaaDoor.P
end
/- Functions of this seat as Lean functions, and that the Go code comes to their answers: written by a program of this session's. -/
section
namespace Go.Proofs.YtbnmddippoiabaaDoor.P
open Go.RowKit Go.Proofs.YtbnmddippoiabaaDoorW.PrintWords Go.Proofs.YtbnmddippoiabaaDoorW.PrintLast Go.Proofs.YtbnmddippoiabaaDoorW.PrintMore
attribute [local go_sem] max2_int min2_int max_two min_two max_three min_three max_four min_four   -- for this text's walks alone
set_option linter.unusedVariables false
set_option linter.unusedSimpArgs false

/-! ### mailbox_within: function 35 -/
def mailbox_within.f (a0 : Int) (a1 : Int) (a2 : Int) : Option (Bool) := some (inB a0 a1 a2)
theorem within_any (a b c : Int) (w : World) : Calls Tryd.prog 35 #[.int .i64 a, .int .i64 b, .int .i64 c] w fun e w' => e = .returned (.bool (inB a b c)) ∧ w = w' := by
  by_cases h1 : b ≤ a
  · by_cases h2 : a ≤ c
    all_goals
      go_enter Tryd.func35, Tryd.ntmps35
      go_wp2
      go_ret
      exact ⟨by simp [inB, h1, h2], rfl⟩
  · go_enter Tryd.func35, Tryd.ntmps35
    go_wp2
    go_ret
    exact ⟨by simp [inB]; omega, rfl⟩
theorem mailbox_within.calls (a0 : Int) (a1 : Int) (a2 : Int) (r : Bool) (w : World) (h : mailbox_within.f a0 a1 a2 = some r) :
    Calls Tryd.prog 35 #[.int .i64 a0, .int .i64 a1, .int .i64 a2] w fun e w' => e = .returned (.bool r) ∧ Drawn0 w w' := by
  obtain rfl : inB a0 a1 a2 = r := by simpa [mailbox_within.f] using h
  exact (within_any a0 a1 a2 w).mono (by rintro e w' ⟨rfl, rfl⟩; exact ⟨rfl, Drawn0.refl _⟩)


end Go.Proofs.YtbnmddippoiabaaDoor.P
end
/- Functions of this seat as Lean functions, and that the Go code comes to their answers: written by a program of this session's. -/
section
namespace Go.Proofs.YtbnmddippoiabaaDoor.P
open Go.RowKit Go.Proofs.YtbnmddippoiabaaDoorW.PrintWords Go.Proofs.YtbnmddippoiabaaDoorW.PrintLast Go.Proofs.YtbnmddippoiabaaDoorW.PrintMore
attribute [local go_sem] max2_int min2_int max_two min_two max_three min_three max_four min_four   -- for this text's walks alone
set_option linter.unusedVariables false
set_option linter.unusedSimpArgs false

/-! ### mailbox_stored: function 36 -/
theorem fieldFault_0 (x y : Int) (w : World) : Sem.run Tryd.prog (Instr.field 29 (.agg #[.int .i64 x, .int .i64 y]) 0) w = .ok (.int .i64 x) w := by kernel_rfl
def mailbox_stored.f (k : Nat) (a0_0 : Int) (a0_1 : Int) (a0_2 : Int) (l0_3 : List (S55)) (l0_4 : List (S75)) (a1 : Int) : Option (Int) :=
  if 0 ≤ a1 ∧ a1 < l0_3.length then
    let e := rd_T55 l0_3 a1
    if (inB e.f0 1 (wrap64 (a0_0 - 1)) && (inB e.f1 1 (wrap64 (a0_1 - 1)) && (inB e.f2 0 63 && inB e.f3 (-68719476736) 68719476736))) = false then some 3
    else if 0 < a1 ∧ e.f0 ≤ (rd_T55 l0_3 (a1 - 1)).f0 then some 19
    else (message_Validate.f k e.f4.f0 e.f4.f1).bind fun t => some t.1
  else none

theorem mailbox_stored.mono : ∀ a0 a1 a2 a3 a4 a5 k, LeO (mailbox_stored.f k a0 a1 a2 a3 a4 a5) (mailbox_stored.f (k + 1) a0 a1 a2 a3 a4 a5) := by
  intro a0 a1 a2 a3 a4 a5 k
  unfold mailbox_stored.f
  dsimp only
  repeat' first | exact LeO.refl _ | exact LeO.none _ | exact message_Validate.mono _ _ _ | refine LeO.ite ?_ ?_ | refine LeO.bind ?_ (fun _ => ?_)

set_option maxHeartbeats 1000000 in
set_option maxRecDepth 100000 in
theorem mailbox_stored.calls (k : Nat) (a0_0 : Int) (a0_1 : Int) (a0_2 : Int) (A0_3 : Option Addr) (c0_3 : Nat) (l0_3 : List (S55)) (A0_4 : Option Addr) (c0_4 : Nat) (l0_4 : List (S75)) (a1 : Int) (r : Int) (w : World) (hr0_3 : Kd.C k55 w A0_3 l0_3.length l0_3) (hc0_3 : l0_3.length ≤ c0_3) (hr0_4 : Kd.C k75 w A0_4 l0_4.length l0_4) (hc0_4 : l0_4.length ≤ c0_4) (h : mailbox_stored.f k a0_0 a0_1 a0_2 l0_3 l0_4 a1 = some r) :
    Calls Tryd.prog 36 #[.agg #[.int .i64 a0_0, .int .i64 a0_1, .int .i64 a0_2, .slice A0_3 l0_3.length c0_3, .slice A0_4 l0_4.length c0_4], .int .i64 a1] w fun e w' => e = .returned (.int .i64 r) ∧ Below w.heap.size w w' := by
  unfold mailbox_stored.f at h
  split at h
  case isFalse => cases h
  case isTrue h0 =>
  obtain ⟨h0, h1⟩ := h0
  obtain ⟨ad, A4, c4, A5, c5, rfl, q0, q1, q2, q3, q4, q5, l4, g4, l5, g5⟩ := at_T55 hr0_3 a1 h0 h1
  replace h0 := eq_true h0
  replace h1 := eq_true h1
  have H := Aside0.mk h
  clear h
  have q0' := cell1 q0
  have q1' := cell1 q1
  have q2' := cell1 q2
  have q3' := cell1 q3
  have q4' := cell1 q4
  have q5' := cell1 q5
  generalize he : rd_T55 l0_3 a1 = e at *
  have He := Aside0.mk he
  clear he
  by_cases ball : (inB e.f0 1 (wrap64 (a0_0 - 1)) && (inB e.f1 1 (wrap64 (a0_1 - 1)) && (inB e.f2 0 63 && inB e.f3 (-68719476736) 68719476736))) = true
  · have H1 := H.out
    clear H
    simp only [ball, Bool.true_eq_false, if_false] at H1
    simp only [Bool.and_eq_true] at ball
    obtain ⟨b1, b2, b3, b4⟩ := ball
    by_cases c1 : 0 < a1
    · have hlen := hr0_3.2.1
      have j1 := of_eq_true h1
      obtain ⟨ji, hji⟩ : ∃ j, a1 - 1 = j := ⟨_, rfl⟩
      have w1 : IntKind.i64.wrap (a1 - 1) = ji := (i64_w _).trans (by unfold wrap64; omega)
      have i1 : 0 ≤ ji := by omega
      have i2 : ji < l0_3.length := by omega
      rw [hji] at H1
      clear j1 hlen hji
      obtain ⟨ad', A4', c4', A5', c5', e', p0, -⟩ := at_T55 hr0_3 ji i1 i2
      cases e'
      have p0' := cell2 p0
      generalize (rd_T55 l0_3 ji).f0 = pv at *
      replace i1 := eq_true i1
      replace i2 := eq_true i2
      by_cases c2 : e.f0 ≤ pv
      · rw [if_pos ⟨c1, c2⟩] at H1
        cases H1
        replace c1 := eq_true c1
        replace c2 := eq_true c2
        go_enter Tryd.func36, Tryd.ntmps36
        go_wp2_with (first | (go_at_call 35; refine (within_any _ _ _ _).mono ?_; rintro e w' ⟨rfl, rfl⟩))
        go_quiet (fail)
        go_wp2
        go_ret
        exact ⟨rfl, by repeat (first | exact Below.refl _ _ | apply below_alloc | apply pw_below_drewN)⟩
      · rw [if_neg (fun h => c2 h.2)] at H1
        obtain ⟨t, ht, hr⟩ := Option.bind_eq_some_iff.1 H1
        cases hr
        clear H1
        replace c1 := eq_true c1
        replace c2 := eq_false c2
        have hf := fieldFault_0
        go_enter Tryd.func36, Tryd.ntmps36
        go_wp2_with (first | (go_at_call 35; refine (within_any _ _ _ _).mono ?_; rintro e w' ⟨rfl, rfl⟩))
        go_quiet (fail)
        go_wp2_with (first | (go_at_call 53; (with_reducible refine (message_Validate.calls k _ _ e.f4.f0 _ _ e.f4.f1 t.1 t.2 _ ?s1 l4 ?s2 l5 ht).mono ?_); (case s1 => exact Kd.C_below g4 (by repeat (first | exact Below.refl _ _ | apply below_alloc | apply pw_below_drewN))); (case s2 => exact Kd.C_below g5 (by repeat (first | exact Below.refl _ _ | apply below_alloc | apply pw_below_drewN))); rintro e w' ⟨rfl, hb⟩))
        go_ret
        exact ⟨rfl, below_then (by repeat (first | exact Below.refl _ _ | apply below_alloc | apply pw_below_drewN)) (below_size (by repeat (first | exact Below.refl _ _ | apply below_alloc | apply pw_below_drewN))) hb⟩
    · rw [if_neg (by omega)] at H1
      obtain ⟨t, ht, hr⟩ := Option.bind_eq_some_iff.1 H1
      cases hr
      clear H1
      have c1' : decide (0 < a1) = false := decide_eq_false c1
      have hf := fieldFault_0
      go_enter Tryd.func36, Tryd.ntmps36
      go_wp2_with (first | (go_at_call 35; refine (within_any _ _ _ _).mono ?_; rintro e w' ⟨rfl, rfl⟩) | (go_at_call 53; (with_reducible refine (message_Validate.calls k _ _ e.f4.f0 _ _ e.f4.f1 t.1 t.2 _ ?s1 l4 ?s2 l5 ht).mono ?_); (case s1 => exact Kd.C_below g4 (by repeat (first | exact Below.refl _ _ | apply below_alloc | apply pw_below_drewN))); (case s2 => exact Kd.C_below g5 (by repeat (first | exact Below.refl _ _ | apply below_alloc | apply pw_below_drewN))); rintro e w' ⟨rfl, hb⟩))
      go_quiet (fail)
      go_wp2_with (first | (go_at_call 53; (with_reducible refine (message_Validate.calls k _ _ e.f4.f0 _ _ e.f4.f1 t.1 t.2 _ ?s1 l4 ?s2 l5 ht).mono ?_); (case s1 => exact Kd.C_below g4 (by repeat (first | exact Below.refl _ _ | apply below_alloc | apply pw_below_drewN))); (case s2 => exact Kd.C_below g5 (by repeat (first | exact Below.refl _ _ | apply below_alloc | apply pw_below_drewN))); rintro e w' ⟨rfl, hb⟩))
      go_ret
      exact ⟨rfl, below_then (by repeat (first | exact Below.refl _ _ | apply below_alloc | apply pw_below_drewN)) (below_size (by repeat (first | exact Below.refl _ _ | apply below_alloc | apply pw_below_drewN))) hb⟩
  · have H1 := H.out
    clear H
    rw [if_pos (by simpa using ball)] at H1
    cases H1
    have bs : inB e.f0 1 (wrap64 (a0_0 - 1)) = false ∨ inB e.f0 1 (wrap64 (a0_0 - 1)) = true ∧ inB e.f1 1 (wrap64 (a0_1 - 1)) = false ∨ inB e.f0 1 (wrap64 (a0_0 - 1)) = true ∧ inB e.f1 1 (wrap64 (a0_1 - 1)) = true ∧ inB e.f2 0 63 = false ∨ inB e.f0 1 (wrap64 (a0_0 - 1)) = true ∧ inB e.f1 1 (wrap64 (a0_1 - 1)) = true ∧ inB e.f2 0 63 = true ∧ inB e.f3 (-68719476736) 68719476736 = false := by
      revert ball
      cases inB e.f0 1 (wrap64 (a0_0 - 1)) <;> cases inB e.f1 1 (wrap64 (a0_1 - 1)) <;> cases inB e.f2 0 63 <;> cases inB e.f3 (-68719476736) 68719476736 <;> simp
    clear ball
    rcases bs with b1 | ⟨b1, b2⟩ | ⟨b1, b2, b3⟩ | ⟨b1, b2, b3, b4⟩
    all_goals
      go_enter Tryd.func36, Tryd.ntmps36
      go_wp2_with (first | (go_at_call 35; refine (within_any _ _ _ _).mono ?_; rintro e w' ⟨rfl, rfl⟩))
      go_ret
      exact ⟨rfl, below_alloc (below_alloc (Below.refl _ _) _) _⟩


end Go.Proofs.YtbnmddippoiabaaDoor.P
end
