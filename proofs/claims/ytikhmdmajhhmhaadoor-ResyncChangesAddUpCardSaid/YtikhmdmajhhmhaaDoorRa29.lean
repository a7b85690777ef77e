/- Several texts in one, each in its own section. The last: Functions of this seat as Lean functions, and that the Go code comes to their answers: written by a program of this session's. -/
import Derived.Test.YtikhmdmajhhmhaaDoorRa26
import Derived.Test.YtikhmdmajhhmhaaDoorRa28
import Derived.Test.YtikhmdmajhhmhaaDoorRa10
/- What Since answers: plain Lean over the printed functions. -/
section
namespace Go.Proofs.YtikhmdmajhhmhaaDoor.P
open Go.RowKit Go.Proofs.YtikhmdmajhhmhaaDoorW.PrintWords Go.Proofs.YtikhmdmajhhmhaaDoorW.PrintLast Go.Proofs.YtikhmdmajhhmhaaDoorW.PrintMore
set_option linter.unusedVariables false
/-- What has changed since, what has gone since. -/
def chg (s : Int) (l : List (S63)) : List (S34) := (l.filter (fun x => decide (s ≤ x.f1))).map (fun x => ⟨x.f0, x.f2⟩)
def van (s : Int) (l : List (S65)) : List Int := (l.filter (fun x => decide (s ≤ x.f1))).map (fun x => x.f0)
theorem chg_cons (s : Int) (x : S63) (l : List (S63)) : chg s (x :: l) = if s ≤ x.f1 then ⟨x.f0, x.f2⟩ :: chg s l else chg s l := by
  unfold chg
  by_cases h : s ≤ x.f1
  · rw [if_pos h, List.filter_cons_of_pos (by simpa using h)]; rfl
  · rw [if_neg h, List.filter_cons_of_neg (by simpa using h)]
theorem van_cons (s : Int) (x : S65) (l : List (S65)) : van s (x :: l) = if s ≤ x.f1 then x.f0 :: van s l else van s l := by
  unfold van
  by_cases h : s ≤ x.f1
  · rw [if_pos h, List.filter_cons_of_pos (by simpa using h)]; rfl
  · rw [if_neg h, List.filter_cons_of_neg (by simpa using h)]
theorem chg_sub {s s' : Int} (h : s ≤ s') {l : List (S63)} {c : S34} (hc : c ∈ chg s' l) : c ∈ chg s l := by
  unfold chg at hc ⊢
  obtain ⟨x, hx, rfl⟩ := List.mem_map.1 hc
  obtain ⟨h1, h2⟩ := List.mem_filter.1 hx
  exact List.mem_map.2 ⟨x, List.mem_filter.2 ⟨h1, decide_eq_true (Int.le_trans h (of_decide_eq_true h2))⟩, rfl⟩
theorem van_sub {s s' : Int} (h : s ≤ s') {l : List (S65)} {c : Int} (hc : c ∈ van s' l) : c ∈ van s l := by
  unfold van at hc ⊢
  obtain ⟨x, hx, rfl⟩ := List.mem_map.1 hc
  obtain ⟨h1, h2⟩ := List.mem_filter.1 hx
  exact List.mem_map.2 ⟨x, List.mem_filter.2 ⟨h1, decide_eq_true (Int.le_trans h (of_decide_eq_true h2))⟩, rfl⟩
theorem vanl_ev (s : Int) (x4 : List (S34)) (l : List (S65)) (hl : l.length ≤ 1000) : ∀ (t : List (S65)) (j : Nat) (x5 : List Int), l.drop j = t → x5.length + t.length ≤ 1000 → Ev (fun k => resync_Changes.l1 k s x4 x5 l l.length j) (x4, x5 ++ van s t, true)
  | [], j, x5, hd, _ => by
    have hj : l.length ≤ j := List.drop_eq_nil_iff.1 hd
    exact Ev.one (fun k => by simp only [resync_Changes.l1]; rw [if_neg (by omega)]; simp [van])
  | x :: t, j, x5, hd, hx5 => by
    have hx : l[j]? = some x := by rw [← List.head?_drop, hd]; rfl
    have hj := (List.getElem?_eq_some_iff.1 hx).1
    have hd' : l.drop (j + 1) = t := by rw [← List.tail_drop, hd]; rfl
    rw [List.length_cons] at hx5
    have hw : wrap64 ((j : Int) + 1) = ((j + 1 : Nat) : Int) := by unfold wrap64; omega
    by_cases hs : s ≤ x.f1
    · have ih := vanl_ev s x4 l hl t (j + 1) (x5 ++ [x.f0]) hd' (by rw [List.length_append, List.length_singleton]; omega)
      rw [van_cons, if_pos hs]
      exact Ev.step (fun k => by simp only [resync_Changes.l1]; rw [if_pos (by omega), if_pos (by omega), if_pos (by omega), rd_gone hx, if_pos hs, if_pos (by omega), hw]) (by rw [List.append_assoc] at ih; exact ih)
    · have ih := vanl_ev s x4 l hl t (j + 1) x5 hd' (by omega)
      rw [van_cons, if_neg hs]
      exact Ev.step (fun k => by simp only [resync_Changes.l1]; rw [if_pos (by omega), if_pos (by omega), if_pos (by omega), rd_gone hx, if_neg hs, hw]) ih
theorem chgl_ev (s : Int) (a0 a1 a2 : Int) (l3 : List (S63)) (l4 : List (S65)) (h3 : l3.length ≤ 1000) (h4 : l4.length ≤ 1000) : ∀ (t : List (S63)) (j : Nat) (x4 : List (S34)), l3.drop j = t → x4.length + t.length ≤ 1000 → Ev (fun k => resync_Changes.l0 k s x4 l3 l3.length j a0 a1 a2 l3 l4) (x4 ++ chg s t, van s l4, true)
  | [], j, x4, hd, _ => by
    have hj : l3.length ≤ j := List.drop_eq_nil_iff.1 hd
    have h := vanl_ev s x4 l4 h4 l4 0 [] rfl (by simpa using h4)
    rw [List.nil_append] at h
    exact Ev.step (fun k => by simp only [resync_Changes.l0]; rw [if_neg (by omega)]) (by simpa [chg] using h)
  | x :: t, j, x4, hd, hx4 => by
    have hx : l3[j]? = some x := by rw [← List.head?_drop, hd]; rfl
    have hj := (List.getElem?_eq_some_iff.1 hx).1
    have hd' : l3.drop (j + 1) = t := by rw [← List.tail_drop, hd]; rfl
    rw [List.length_cons] at hx4
    have hw : wrap64 ((j : Int) + 1) = ((j + 1 : Nat) : Int) := by unfold wrap64; omega
    by_cases hs : s ≤ x.f1
    · have ih := chgl_ev s a0 a1 a2 l3 l4 h3 h4 t (j + 1) (x4 ++ [⟨x.f0, x.f2⟩]) hd' (by rw [List.length_append, List.length_singleton]; omega)
      rw [chg_cons, if_pos hs]
      exact Ev.step (fun k => by simp only [resync_Changes.l0]; rw [if_pos (by omega), if_pos (by omega), if_pos (by omega), rd_stored hx, if_pos hs, if_pos (by omega), hw]) (by rw [List.append_assoc] at ih; exact ih)
    · have ih := chgl_ev s a0 a1 a2 l3 l4 h3 h4 t (j + 1) x4 hd' (by omega)
      rw [chg_cons, if_neg hs]
      exact Ev.step (fun k => by simp only [resync_Changes.l0]; rw [if_pos (by omega), if_pos (by omega), if_pos (by omega), rd_stored hx, if_neg hs, hw]) ih
/-- What Since answers. -/
theorem since_ev {a0 a1 a2 : Int} {l3 : List (S63)} {l4 : List (S65)} (hw : WFBox l3 l4) (s : Int) : ∃ r, Ev (fun k => resync_Since.f k a0 a1 a2 l3 l4 s) r ∧
    (r.2.2.1 = 0 → BoxOk a0 a1 a2 l3 l4 ∧ 1 ≤ s ∧ s ≤ a1 ∧ a2 < s ∧ r = (chg s l3, van s l4, 0, 0)) ∧ (BoxOk a0 a1 a2 l3 l4 → 1 ≤ s → s ≤ a1 → a2 < s → r = (chg s l3, van s l4, 0, 0)) := by
  obtain ⟨v, hv, h1, h2⟩ := box_ev (a0 := a0) (a1 := a1) (a2 := a2) hw
  have bad : ∀ c x : Int, c ≠ 0 → Ev (fun k => resync_Since.j1 k s a0 a1 a2 l3 l4 c x) (([] : List (S34)), ([] : List Int), c, x) := fun c x h => Ev.one (fun k => by simp only [resync_Since.j1]; rw [if_pos (by rw [Bool.or_eq_true]; left; simp [h])])
  by_cases e1 : v.1 = 0
  · have e2 := h1 e1
    have hb := h2.1 e1
    have st : ∀ (b : Bool) (r), (s < 1 ∨ ¬ s < 1 ∧ b = decide (s > a1)) → (s < 1 → b = true) → Ev (fun k => resync_Since.j0 k s b a0 a1 a2 l3 l4 v.1 v.2) r → Ev (fun k => resync_Since.f k a0 a1 a2 l3 l4 s) r := fun b r hb1 hb2 hr => Ev.bind hv (f := fun k t => _) (Ev.congr (fun k => by
      rw [if_pos (by rw [e1, e2]; decide)]
      by_cases hs : s < 1
      · rw [if_pos hs, ← hb2 hs]
      · rw [if_neg hs]
        rcases hb1 with h | h
        · exact absurd h hs
        · rw [h.2]) hr)
    by_cases h3 : s < 1 ∨ s > a1
    · refine ⟨([], [], 3, -4), st true _ (by rcases h3 with h | h; exact .inl h; exact .inr ⟨by have := hb.s0; omega, (decide_eq_true h).symm⟩) (fun _ => rfl) (Ev.step (fun k => by simp only [resync_Since.j0]; rw [if_pos (by simp)]) (bad 3 (-4) (by decide))), (fun h => by cases h), fun _ q1 q2 _ => by omega⟩
    · have hn1 : ¬ s < 1 := fun h => h3 (.inl h)
      have hn2 : ¬ s > a1 := fun h => h3 (.inr h)
      have fin : ∀ r, Ev (fun k => (resync_Changes.f k a0 a1 a2 l3 l4 s).bind fun t => (if t.2.2 = true then some (t.1, t.2.1, (0 : Int), (0 : Int)) else some (([] : List (S34)), ([] : List Int), (8 : Int), (-4 : Int)))) r → Ev (fun k => resync_Since.f k a0 a1 a2 l3 l4 s) r := fun r hr => st false r (.inr ⟨hn1, (decide_eq_false hn2).symm⟩) (fun h => absurd h hn1) (Ev.step (fun k => by simp only [resync_Since.j0]; rw [if_neg (by simp), e1, e2]) (Ev.step (fun k => by simp only [resync_Since.j1]; rw [if_neg (by decide)]) hr))
      by_cases h4 : s ≤ a2
      · exact ⟨([], [], 8, -4), fin _ (Ev.congr (fun k => by unfold resync_Changes.f; rw [if_pos h4]; rfl) (Ev.now _)), (fun h => by cases h), fun _ _ _ q => by omega⟩
      · have hc := chgl_ev s a0 a1 a2 l3 l4 (by have := hb.n3; omega) (by have := hb.n4; omega) l3 0 [] rfl (by have := hb.n3; simp; omega)
        rw [List.nil_append] at hc
        have hc' : Ev (fun k => resync_Changes.f k a0 a1 a2 l3 l4 s) (chg s l3, van s l4, true) := Ev.congr (fun k => by unfold resync_Changes.f; rw [if_neg h4]; rfl) hc
        exact ⟨(chg s l3, van s l4, 0, 0), fin _ (Ev.bind hc' (f := fun k t => _) (Ev.congr (fun k => by rw [if_pos rfl]) (Ev.now _))), fun _ => ⟨hb, by omega, by omega, by omega, rfl⟩, fun _ _ _ _ => rfl⟩
  · refine ⟨([], [], v.1, v.2), Ev.bind hv (f := fun k t => _) (Ev.congr (fun k => by rw [if_neg (by simp [e1])]) (Ev.step (fun k => by simp only [resync_Since.j0]; rw [if_neg (by simp)]) (bad v.1 v.2 e1))), fun h => absurd h e1, fun hb => absurd (h2.2 hb) e1⟩
end Go.Proofs.YtikhmdmajhhmhaaDoor.P
end
/- Functions of this seat as Lean functions, and that the Go code comes to their answers: written by a program of this session's. -/
section
namespace Go.Proofs.YtikhmdmajhhmhaaDoor.P
open Go.RowKit Go.Proofs.YtikhmdmajhhmhaaDoorW.PrintWords Go.Proofs.YtikhmdmajhhmhaaDoorW.PrintLast Go.Proofs.YtikhmdmajhhmhaaDoorW.PrintMore
attribute [local go_sem] max2_int min2_int max_two min_two max_three min_three max_four min_four   -- for this text's walks alone
set_option linter.unusedVariables false
set_option linter.unusedSimpArgs false

theorem eqA34 (d : Nat) (w : World) (x0 y0 : Int) (x1 y1 : Int) :
    (Op.equalIn (d + 2) 34 (.agg #[.int .i64 x0, .int .i64 x1]) (.agg #[.int .i64 y0, .int .i64 y1])).run Tryd.prog w = .ok (x0 == y0 && (x1 == y1)) w := by
  refine eqA_of Tryd.underlying34 (by kernel_rfl) ?_
  refine eqf_cons (by rfl) (by go_simp; rfl) (by go_simp; rfl) (by go_simp) ?_
  exact eqf_last (by rfl) (by go_simp; rfl) (by go_simp; rfl) (by go_simp)
end Go.Proofs.YtikhmdmajhhmhaaDoor.P
end
/- Functions of this seat as Lean functions, and that the Go code comes to their answers: written by a program of this session's. -/
section
namespace Go.Proofs.YtikhmdmajhhmhaaDoor.P
open Go.RowKit Go.Proofs.YtikhmdmajhhmhaaDoorW.PrintWords Go.Proofs.YtikhmdmajhhmhaaDoorW.PrintLast Go.Proofs.YtikhmdmajhhmhaaDoorW.PrintMore
attribute [local go_sem] max2_int min2_int max_two min_two max_three min_three max_four min_four   -- for this text's walks alone
set_option linter.unusedVariables false
set_option linter.unusedSimpArgs false

/-! ### posthouselaw8_letter: function 19 -/
def posthouselaw8_letter.f (a0 : ByteArray) : Option ((List (S81)) × List Int) := some ([⟨⟨#[83, 117, 98, 106, 101, 99, 116]⟩, a0⟩], [120, 13, 10])
set_option maxRecDepth 100000 in
theorem posthouselaw8_letter.calls (a0 : ByteArray) (r1 : List (S81)) (r2 : List Int) (w : World) (h : posthouselaw8_letter.f a0 = some (r1, r2)) :
    Calls Tryd.prog 19 #[.string a0] w fun e w' => ∃ v0_ v1_ : Value, e = .returned (.agg #[v0_, v1_]) ∧ Kd.V k81 81 w' w.heap.size (fun k_ => (w.heap.size ≤ k_)) v0_ r1 ∧ Kd.V (Kd.int .u8) 5 w' w.heap.size (fun k_ => (w.heap.size ≤ k_)) v1_ r2 ∧ Below w.heap.size w w' := by
  obtain ⟨rfl, rfl⟩ : [⟨⟨#[83, 117, 98, 106, 101, 99, 116]⟩, a0⟩] = r1 ∧ [120, 13, 10] = r2 := by simpa [posthouselaw8_letter.f] using h
  have hu := Tryd.underlying40
  have hu2 := Tryd.underlying81
  have kc : ∀ (W : World) (o1 o2 : Obj) (C : Array Value) (n c : Nat), Sem.run Tryd.prog (convert 38 38 (.slice (some ⟨W.heap.size + 1 + 1, 0, none⟩) n c)) (((W.alloc o1).alloc o2).alloc (.cells C 5)) = .ok (.slice (some ⟨W.heap.size + 1 + 1, 0, none⟩) n c) (((W.alloc o1).alloc o2).alloc (.cells C 5 (C.size, C.size + 1))) := fun W o1 o2 C n c => by
    have := Lib.run_convert_bytes_const (P := Tryd.prog) ((W.alloc o1).alloc o2) 38 5 C n c Tryd.underlying38 Tryd.underlying5
    simpa using this
  go_enter Tryd.func19, Tryd.ntmps19
  go_wp2
  refine bodyPost_ret (v := .agg #[.slice (some ⟨w.heap.size + 1, 0, none⟩) 1 1, .slice (some ⟨w.heap.size + 1 + 1, 0, none⟩) 3 3]) (by simp [results, Tryd.results19, go_sem]) rfl ⟨_, _, rfl, ?_, ?_, ?_⟩
  · exact V_one (blk_later (blk_at1 _ _) _) rfl (by omega) rfl (k81_mkF _ _ _) (Nat.le_refl _)
  · exact V_nums (xs := [120, 13, 10]) (blk_at2 _ _ _) (by omega) (fun j hj => by match j, hj with | 0, _ => rfl | 1, _ => rfl | 2, _ => rfl) (Nat.le_refl _) (by simp)
  · exact below_alloc (below_alloc (below_alloc (Below.refl _ _) _) _) _


end Go.Proofs.YtikhmdmajhhmhaaDoor.P
end
/- Functions of this seat as Lean functions, and that the Go code comes to their answers: written by a program of this session's. -/
section
namespace Go.Proofs.YtikhmdmajhhmhaaDoor.P
open Go.RowKit Go.Proofs.YtikhmdmajhhmhaaDoorW.PrintWords Go.Proofs.YtikhmdmajhhmhaaDoorW.PrintLast Go.Proofs.YtikhmdmajhhmhaaDoorW.PrintMore
attribute [local go_sem] max2_int min2_int max_two min_two max_three min_three max_four min_four   -- for this text's walks alone
set_option linter.unusedVariables false
set_option linter.unusedSimpArgs false

/-! ### posthouselaw8_three: function 9 -/
def posthouselaw8_three.f : Option (Int × Int × Int × (List (S63)) × (List (S65))) := (posthouselaw8_letter.f (⟨#[98]⟩ : ByteArray)).bind fun b => some (3, 5, 0, [⟨2, 3, 1, 9, ⟨b.1, b.2⟩⟩], [⟨1, 4⟩])
set_option maxRecDepth 100000 in
theorem posthouselaw8_three.calls (r1 : Int) (r2 : Int) (r3 : Int) (r4 : List (S63)) (r5 : List (S65)) (w : World) (h : posthouselaw8_three.f = some (r1, r2, r3, r4, r5)) :
    Calls Tryd.prog 9 #[] w fun e w' => ∃ v3_ v4_ : Value, e = .returned (.agg #[.int .i64 r1, .int .i64 r2, .int .i64 r3, v3_, v4_]) ∧ Kd.V k63 63 w' w.heap.size (fun k_ => (w.heap.size ≤ k_)) v3_ r4 ∧ Kd.V k65 65 w' w.heap.size (fun k_ => (w.heap.size ≤ k_)) v4_ r5 ∧ Below w.heap.size w w' := by
  obtain ⟨⟨t1, t2⟩, ht, h⟩ := Option.bind_eq_some_iff.1 h
  simp only [Option.some.injEq, Prod.mk.injEq] at h
  obtain ⟨rfl, rfl, rfl, rfl, rfl⟩ := h
  have hu := Tryd.underlying25
  have hu2 := Tryd.underlying63
  have hu3 := Tryd.underlying65
  go_enter Tryd.func9, Tryd.ntmps9
  go_wp2_with fail
  refine (posthouselaw8_letter.calls _ t1 t2 _ ht).mono ?_
  rintro e w1 ⟨_, _, rfl, ⟨A0, c0, rfl, l0, f0⟩, ⟨A1, c1, rfl, l1, f1⟩, hb⟩
  have hB := blk_call (blk_at _) hb
  have hz := hb.size
  simp only [World.size_alloc] at hz f0 f1
  have kc := bc2 hB
  have kf := bf2 hB
  replace hB := Aside0.mk hB
  replace f0 := Aside0.mk f0
  replace f1 := Aside0.mk f1
  replace hb := Aside0.mk hb
  go_wp2
  have hlt : w.heap.size ≠ w1.heap.size := by omega
  have hlt2 : w.heap.size ≠ w1.heap.size + 1 := by omega
  refine bodyPost_ret (v := .agg #[.int .i64 3, .int .i64 5, .int .i64 0, .slice (some ⟨w1.heap.size, 0, none⟩) 1 1, .slice (some ⟨w1.heap.size + 1, 0, none⟩) 1 1]) (by simp [results, Tryd.results9, go_sem, kc]) rfl ⟨_, _, rfl, ?_, ?_, ?_⟩
  · have hk : ∀ k, w.heap.size + 1 ≤ k → k ≠ w.heap.size := fun k hk => by omega
    exact V_one (blk_far (blk_far (blk_far (blk_far (blk_far (blk_later (blk_at _) _) hlt.symm _) hlt.symm _) hlt.symm _) hlt.symm _) hlt.symm _) rfl (by omega) rfl (k63_mkF _ _ (⟨2, 3, 1, 9, ⟨t1, t2⟩⟩ : S63) l0 (Kd.F_mono (Kd.F_far (Kd.F_far (Kd.F_far (Kd.F_far (Kd.F_far (Kd.F_alloc (Kd.F_alloc f0.out _) _) hk _) hk _) hk _) hk _) hk _) (fun k hk => by omega)) l1 (Kd.F_mono (Kd.F_far (Kd.F_far (Kd.F_far (Kd.F_far (Kd.F_far (Kd.F_alloc (Kd.F_alloc f1.out _) _) hk _) hk _) hk _) hk _) hk _) (fun k hk => by omega))) (Nat.le_refl _)
  · exact V_one (blk_far (blk_far (blk_far (blk_far (blk_far (blk_at1 _ _) hlt2.symm _) hlt2.symm _) hlt2.symm _) hlt2.symm _) hlt2.symm _) rfl (by omega) rfl (k65_mkF _ _ _) (Nat.le_refl _)
  · have := below_then (below_alloc (Below.refl _ w) _) (by simp) hb.out
    exact (below_set (below_set (below_set (below_set (below_set (below_alloc (below_alloc this _) _) (Nat.le_refl _)) (Nat.le_refl _)) (Nat.le_refl _)) (Nat.le_refl _)) (Nat.le_refl _))


end Go.Proofs.YtikhmdmajhhmhaaDoor.P
end
