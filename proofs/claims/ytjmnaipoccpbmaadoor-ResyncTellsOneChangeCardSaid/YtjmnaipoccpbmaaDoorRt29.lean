/- Several texts in one, each in its own section. The last: Functions of this seat as Lean functions, and that the Go code comes to their answers: written by a program of this session's. -/
import Derived.Test.YtjmnaipoccpbmaaDoorRt26
import Derived.Test.YtjmnaipoccpbmaaDoorRt28
import Derived.Test.YtjmnaipoccpbmaaDoorRt10
import Derived.Test.YtjmnaipoccpbmaaDoorRt19
import Derived.Test.YtjmnaipoccpbmaaDoorRt25
/- What Since answers: plain Lean over the printed functions. -/
section
namespace Go.Proofs.YtjmnaipoccpbmaaDoor.P
open Go.RowKit Go.Proofs.YtjmnaipoccpbmaaDoorW.PrintWords Go.Proofs.YtjmnaipoccpbmaaDoorW.PrintLast Go.Proofs.YtjmnaipoccpbmaaDoorW.PrintMore
set_option linter.unusedVariables false
/-- What has changed since, what has gone since. -/
def chg (s : Int) (l : List (S78)) : List (S58) := (l.filter (fun x => decide (s ≤ x.f1))).map (fun x => ⟨x.f0, x.f2⟩)
def van (s : Int) (l : List (S73)) : List Int := (l.filter (fun x => decide (s ≤ x.f1))).map (fun x => x.f0)
theorem chg_cons (s : Int) (x : S78) (l : List (S78)) : chg s (x :: l) = if s ≤ x.f1 then ⟨x.f0, x.f2⟩ :: chg s l else chg s l := by
  unfold chg
  by_cases h : s ≤ x.f1
  · rw [if_pos h, List.filter_cons_of_pos (by simpa using h)]; rfl
  · rw [if_neg h, List.filter_cons_of_neg (by simpa using h)]
theorem van_cons (s : Int) (x : S73) (l : List (S73)) : van s (x :: l) = if s ≤ x.f1 then x.f0 :: van s l else van s l := by
  unfold van
  by_cases h : s ≤ x.f1
  · rw [if_pos h, List.filter_cons_of_pos (by simpa using h)]; rfl
  · rw [if_neg h, List.filter_cons_of_neg (by simpa using h)]
theorem vanl_ev (s : Int) (x4 : List (S58)) (l : List (S73)) (hl : l.length ≤ 1000) : ∀ (t : List (S73)) (j : Nat) (x5 : List Int), l.drop j = t → x5.length + t.length ≤ 1000 → Ev (fun k => resync_Changes.l1 k s x4 x5 l l.length j) (x4, x5 ++ van s t, true)
  | [], j, x5, hd, _ => by
    have hj : l.length ≤ j := List.drop_eq_nil_iff.1 hd
    exact Ev.one (fun k => by simp only [resync_Changes.l1]; rw [if_neg (by omega)]; simp [van])
  | x :: t, j, x5, hd, hx5 => by
    have hx : l[j]? = some x := by rw [← List.head?_drop, hd]; rfl
    have hj := (List.getElem?_eq_some_iff.1 hx).1
    have hd' : l.drop (j + 1) = t := by rw [← List.tail_drop, hd]; rfl
    rw [List.length_cons] at hx5
    have hw : wrap64 ((j : Int) + 1) = ((j + 1 : Nat) : Int) := by unfold wrap64; omega
    by_cases hs : s ≤ x.f1
    · have ih := vanl_ev s x4 l hl t (j + 1) (x5 ++ [x.f0]) hd' (by rw [List.length_append, List.length_singleton]; omega)
      rw [van_cons, if_pos hs]
      exact Ev.step (fun k => by simp only [resync_Changes.l1]; rw [if_pos (by omega), if_pos (by omega), if_pos (by omega), rd_gone hx, if_pos hs, if_pos (by omega), hw]) (by rw [List.append_assoc] at ih; exact ih)
    · have ih := vanl_ev s x4 l hl t (j + 1) x5 hd' (by omega)
      rw [van_cons, if_neg hs]
      exact Ev.step (fun k => by simp only [resync_Changes.l1]; rw [if_pos (by omega), if_pos (by omega), if_pos (by omega), rd_gone hx, if_neg hs, hw]) ih
theorem chgl_ev (s : Int) (a0 a1 a2 : Int) (l3 : List (S78)) (l4 : List (S73)) (h3 : l3.length ≤ 1000) (h4 : l4.length ≤ 1000) : ∀ (t : List (S78)) (j : Nat) (x4 : List (S58)), l3.drop j = t → x4.length + t.length ≤ 1000 → Ev (fun k => resync_Changes.l0 k s x4 l3 l3.length j a0 a1 a2 l3 l4) (x4 ++ chg s t, van s l4, true)
  | [], j, x4, hd, _ => by
    have hj : l3.length ≤ j := List.drop_eq_nil_iff.1 hd
    have h := vanl_ev s x4 l4 h4 l4 0 [] rfl (by simpa using h4)
    rw [List.nil_append] at h
    exact Ev.step (fun k => by simp only [resync_Changes.l0]; rw [if_neg (by omega)]) (by simpa [chg] using h)
  | x :: t, j, x4, hd, hx4 => by
    have hx : l3[j]? = some x := by rw [← List.head?_drop, hd]; rfl
    have hj := (List.getElem?_eq_some_iff.1 hx).1
    have hd' : l3.drop (j + 1) = t := by rw [← List.tail_drop, hd]; rfl
    rw [List.length_cons] at hx4
    have hw : wrap64 ((j : Int) + 1) = ((j + 1 : Nat) : Int) := by unfold wrap64; omega
    by_cases hs : s ≤ x.f1
    · have ih := chgl_ev s a0 a1 a2 l3 l4 h3 h4 t (j + 1) (x4 ++ [⟨x.f0, x.f2⟩]) hd' (by rw [List.length_append, List.length_singleton]; omega)
      rw [chg_cons, if_pos hs]
      exact Ev.step (fun k => by simp only [resync_Changes.l0]; rw [if_pos (by omega), if_pos (by omega), if_pos (by omega), rd_stored hx, if_pos hs, if_pos (by omega), hw]) (by rw [List.append_assoc] at ih; exact ih)
    · have ih := chgl_ev s a0 a1 a2 l3 l4 h3 h4 t (j + 1) x4 hd' (by omega)
      rw [chg_cons, if_neg hs]
      exact Ev.step (fun k => by simp only [resync_Changes.l0]; rw [if_pos (by omega), if_pos (by omega), if_pos (by omega), rd_stored hx, if_neg hs, hw]) ih
/-- What Since answers. -/
theorem since_ev {a0 a1 a2 : Int} {l3 : List (S78)} {l4 : List (S73)} (hw : WFBox l3 l4) (s : Int) : ∃ r, Ev (fun k => resync_Since.f k a0 a1 a2 l3 l4 s) r ∧
    (r.2.2.1 = 0 → BoxOk a0 a1 a2 l3 l4 ∧ 1 ≤ s ∧ s ≤ a1 ∧ a2 < s ∧ r = (chg s l3, van s l4, 0, 0)) ∧ (BoxOk a0 a1 a2 l3 l4 → 1 ≤ s → s ≤ a1 → a2 < s → r = (chg s l3, van s l4, 0, 0)) := by
  obtain ⟨v, hv, h1, h2⟩ := box_ev (a0 := a0) (a1 := a1) (a2 := a2) hw
  have bad : ∀ c x : Int, c ≠ 0 → Ev (fun k => resync_Since.j1 k s a0 a1 a2 l3 l4 c x) (([] : List (S58)), ([] : List Int), c, x) := fun c x h => Ev.one (fun k => by simp only [resync_Since.j1]; rw [if_pos (by rw [Bool.or_eq_true]; left; simp [h])])
  by_cases e1 : v.1 = 0
  · have e2 := h1 e1
    have hb := h2.1 e1
    have st : ∀ (b : Bool) (r), (s < 1 ∨ ¬ s < 1 ∧ b = decide (s > a1)) → (s < 1 → b = true) → Ev (fun k => resync_Since.j0 k s b a0 a1 a2 l3 l4 v.1 v.2) r → Ev (fun k => resync_Since.f k a0 a1 a2 l3 l4 s) r := fun b r hb1 hb2 hr => Ev.bind hv (f := fun k t => _) (Ev.congr (fun k => by
      rw [if_pos (by rw [e1, e2]; decide)]
      by_cases hs : s < 1
      · rw [if_pos hs, ← hb2 hs]
      · rw [if_neg hs]
        rcases hb1 with h | h
        · exact absurd h hs
        · rw [h.2]) hr)
    by_cases h3 : s < 1 ∨ s > a1
    · refine ⟨([], [], 3, -4), st true _ (by rcases h3 with h | h; exact .inl h; exact .inr ⟨by have := hb.s0; omega, (decide_eq_true h).symm⟩) (fun _ => rfl) (Ev.step (fun k => by simp only [resync_Since.j0]; rw [if_pos (by simp)]) (bad 3 (-4) (by decide))), (fun h => by cases h), fun _ q1 q2 _ => by omega⟩
    · have hn1 : ¬ s < 1 := fun h => h3 (.inl h)
      have hn2 : ¬ s > a1 := fun h => h3 (.inr h)
      have fin : ∀ r, Ev (fun k => (resync_Changes.f k a0 a1 a2 l3 l4 s).bind fun t => (if t.2.2 = true then some (t.1, t.2.1, (0 : Int), (0 : Int)) else some (([] : List (S58)), ([] : List Int), (8 : Int), (-4 : Int)))) r → Ev (fun k => resync_Since.f k a0 a1 a2 l3 l4 s) r := fun r hr => st false r (.inr ⟨hn1, (decide_eq_false hn2).symm⟩) (fun h => absurd h hn1) (Ev.step (fun k => by simp only [resync_Since.j0]; rw [if_neg (by simp), e1, e2]) (Ev.step (fun k => by simp only [resync_Since.j1]; rw [if_neg (by decide)]) hr))
      by_cases h4 : s ≤ a2
      · exact ⟨([], [], 8, -4), fin _ (Ev.congr (fun k => by unfold resync_Changes.f; rw [if_pos h4]; rfl) (Ev.now _)), (fun h => by cases h), fun _ _ _ q => by omega⟩
      · have hc := chgl_ev s a0 a1 a2 l3 l4 (by have := hb.n3; omega) (by have := hb.n4; omega) l3 0 [] rfl (by have := hb.n3; simp; omega)
        rw [List.nil_append] at hc
        have hc' : Ev (fun k => resync_Changes.f k a0 a1 a2 l3 l4 s) (chg s l3, van s l4, true) := Ev.congr (fun k => by unfold resync_Changes.f; rw [if_neg h4]; rfl) hc
        exact ⟨(chg s l3, van s l4, 0, 0), fin _ (Ev.bind hc' (f := fun k t => _) (Ev.congr (fun k => by rw [if_pos rfl]) (Ev.now _))), fun _ => ⟨hb, by omega, by omega, by omega, rfl⟩, fun _ _ _ _ => rfl⟩
  · refine ⟨([], [], v.1, v.2), Ev.bind hv (f := fun k t => _) (Ev.congr (fun k => by rw [if_neg (by simp [e1])]) (Ev.step (fun k => by simp only [resync_Since.j0]; rw [if_neg (by simp)]) (bad v.1 v.2 e1))), fun h => absurd h e1, fun hb => absurd (h2.2 hb) e1⟩
end Go.Proofs.YtjmnaipoccpbmaaDoor.P
end
/- Functions of this seat as Lean functions, and that the Go code comes to their answers: written by a program of this session's. -/
section
namespace Go.Proofs.YtjmnaipoccpbmaaDoor.P
open Go.RowKit Go.Proofs.YtjmnaipoccpbmaaDoorW.PrintWords Go.Proofs.YtjmnaipoccpbmaaDoorW.PrintLast Go.Proofs.YtjmnaipoccpbmaaDoorW.PrintMore
attribute [local go_sem] max2_int min2_int max_two min_two max_three min_three max_four min_four   -- for this text's walks alone
set_option linter.unusedVariables false
set_option linter.unusedSimpArgs false

/-! ### posthouselaw8_ResyncTellsOneChange: function 4 -/
set_option maxHeartbeats 4000000 in
set_option maxRecDepth 100000 in
theorem ResyncTells_a (k : Nat) (a0 a1 a2 : Int) (aA : Option Addr) (aa : Nat) (a3 : List (S78)) (aB : Option Addr) (ab : Nat) (a4 : List (S73)) (c0 c1 c2 c3 c4 : Int) (cA : Option Addr) (ca : Nat) (c5 : List (S99)) (cB : Option Addr) (cb : Nat) (c6 : List Int) (r0 r1 r2 : Int) (r3 : List (S78)) (r4 : List (S73)) (s5 s6 : Int) (w : World) (ha3 : Kd.C k78 w aA a3.length a3) (ea3 : a3.length ≤ aa) (ha4 : Kd.C k73 w aB a4.length a4) (ea4 : a4.length ≤ ab) (hc5 : Kd.C k99 w cA c5.length c5) (ec5 : c5.length ≤ ca) (hc6 : Kd.C (Kd.int .u8) w cB c6.length c6) (ec6 : c6.length ≤ cb) (hbx : ∀ w, Calls Tryd.prog 11 #[] w fun e w' => e = .returned (.bool true) ∧ Below w.heap.size w w') (p1 : mailbox_Apply.f k a0 a1 a2 a3 a4 c0 c1 c2 c3 c4 c5 c6 = some (r0, r1, r2, r3, r4, s5, s6)) (q2 : (s5 != 0) = true) :
    Calls Tryd.prog 4 #[.agg #[.int .i64 a0, .int .i64 a1, .int .i64 a2, .slice aA a3.length aa, .slice aB a4.length ab], .agg #[.int .i64 c0, .int .i64 c1, .int .i64 c2, .int .i64 c3, .int .i64 c4, .slice cA c5.length ca, .slice cB c6.length cb]] w fun e w' => e = .returned (.bool true) ∧ Below w.heap.size w w' := by
  have HA3 := Aside0.mk ha3
  have HA4 := Aside0.mk ha4
  have HC5 := Aside0.mk hc5
  have HC6 := Aside0.mk hc6
  have HBX := Aside0.mk hbx
  have P1 := Aside0.mk p1
  clear ha3 ha4 hc5 hc6 hbx p1
  have hu := Tryd.underlying25
  have hfld := fieldFault_0
  have HB := Aside0.mk (below_alloc (below_alloc (Below.refl w.heap.size w) (.cells #[.int .i64 a0, .int .i64 a1, .int .i64 a2, .slice aA a3.length aa, .slice aB a4.length ab] 25)) (.cells #[.int .i64 c0, .int .i64 c1, .int .i64 c2, .int .i64 c3, .int .i64 c4, .slice cA c5.length ca, .slice cB c6.length cb] 44))
  have HA := Aside0.mk (blk_later (blk_at (w := w) (.cells #[.int .i64 a0, .int .i64 a1, .int .i64 a2, .slice aA a3.length aa, .slice aB a4.length ab] 25)) (.cells #[.int .i64 c0, .int .i64 c1, .int .i64 c2, .int .i64 c3, .int .i64 c4, .slice cA c5.length ca, .slice cB c6.length cb] 44))
  have HX := Aside0.mk (blk_at1 (w := w) (.cells #[.int .i64 a0, .int .i64 a1, .int .i64 a2, .slice aA a3.length aa, .slice aB a4.length ab] 25) (.cells #[.int .i64 c0, .int .i64 c1, .int .i64 c2, .int .i64 c3, .int .i64 c4, .slice cA c5.length ca, .slice cB c6.length cb] 44))
  go_enter Tryd.func4, Tryd.ntmps4
  go_wp2_with fail
  refine (HBX.out _).mono ?_
  rintro e w1 ⟨rfl, hb⟩
  replace HA := Aside0.mk (blk_call HA.out hb)
  replace HX := Aside0.mk (blk_call HX.out hb)
  replace HB := Aside0.mk (below_step HB.out hb)
  clear hb
  have kHA := bc0 HA.out
  have mHA := bc1 HA.out
  have nHA := bc2 HA.out
  have fHA := bf0 HA.out
  have yHA := blk_lt HA.out
  have kHX := bc0 HX.out
  have mHX := bc1 HX.out
  have nHX := bc2 HX.out
  have fHX := bf0 HX.out
  have yHX := blk_lt HX.out
  go_wp2_with fail
  clear kHA mHA nHA fHA yHA kHX mHX nHX fHX yHX
  refine (mailbox_Apply.calls k a0 a1 a2 aA aa a3 aB ab a4 c0 c1 c2 c3 c4 cA ca c5 cB cb c6 r0 r1 r2 r3 r4 s5 s6 _ (Kd.C_below HA3.out HB.out) ea3 (Kd.C_below HA4.out HB.out) ea4 (Kd.C_below HC5.out HB.out) ec5 (Kd.C_below HC6.out HB.out) ec6 P1.out).mono ?_
  rintro e w5 ⟨v3_, v4_, rfl, hv3_, hv4_, hb⟩
  obtain ⟨rA, ra, rfl⟩ := Kd.V_slice hv3_
  obtain ⟨rB, rb, rfl⟩ := Kd.V_slice hv4_
  have HrV := Aside0.mk hv3_
  have HrW := Aside0.mk hv4_
  clear hv3_ hv4_
  replace HA := Aside0.mk (blk_call HA.out hb)
  replace HX := Aside0.mk (blk_call HX.out hb)
  replace HB := Aside0.mk (below_step HB.out hb)
  clear hb
  have kHA := bc0 HA.out
  have mHA := bc1 HA.out
  have nHA := bc2 HA.out
  have fHA := bf0 HA.out
  have yHA := blk_lt HA.out
  go_wp2
  go_ret
  exact ⟨rfl, below_alloc (below_alloc HB.out _) _⟩
set_option maxHeartbeats 4000000 in
set_option maxRecDepth 100000 in
theorem ResyncTells_b (k : Nat) (a0 a1 a2 : Int) (aA : Option Addr) (aa : Nat) (a3 : List (S78)) (aB : Option Addr) (ab : Nat) (a4 : List (S73)) (c0 c1 c2 c3 c4 : Int) (cA : Option Addr) (ca : Nat) (c5 : List (S99)) (cB : Option Addr) (cb : Nat) (c6 : List Int) (r0 r1 r2 : Int) (r3 : List (S78)) (r4 : List (S73)) (s5 s6 : Int) (w : World) (ha3 : Kd.C k78 w aA a3.length a3) (ea3 : a3.length ≤ aa) (ha4 : Kd.C k73 w aB a4.length a4) (ea4 : a4.length ≤ ab) (hc5 : Kd.C k99 w cA c5.length c5) (ec5 : c5.length ≤ ca) (hc6 : Kd.C (Kd.int .u8) w cB c6.length c6) (ec6 : c6.length ≤ cb) (hbx : ∀ w, Calls Tryd.prog 11 #[] w fun e w' => e = .returned (.bool true) ∧ Below w.heap.size w w') (p1 : mailbox_Apply.f k a0 a1 a2 a3 a4 c0 c1 c2 c3 c4 c5 c6 = some (r0, r1, r2, r3, r4, s5, s6)) (q2 : (s5 != 0) = false) (xs : List (S58)) (ys : List Int) (z : Int) (u1 : resync_Since.f k r0 r1 r2 r3 r4 a1 = some (xs, ys, 0, z)) (q3 : (r1 == a1) = true) (q4 : xs = []) (q5 : ys = []) :
    Calls Tryd.prog 4 #[.agg #[.int .i64 a0, .int .i64 a1, .int .i64 a2, .slice aA a3.length aa, .slice aB a4.length ab], .agg #[.int .i64 c0, .int .i64 c1, .int .i64 c2, .int .i64 c3, .int .i64 c4, .slice cA c5.length ca, .slice cB c6.length cb]] w fun e w' => e = .returned (.bool true) ∧ Below w.heap.size w w' := by
  have HA3 := Aside0.mk ha3
  have HA4 := Aside0.mk ha4
  have HC5 := Aside0.mk hc5
  have HC6 := Aside0.mk hc6
  have HBX := Aside0.mk hbx
  have P1 := Aside0.mk p1
  have U1 := Aside0.mk u1
  clear ha3 ha4 hc5 hc6 hbx p1 u1
  subst q4 q5
  have n0 : ([] : List (S58)).length = 0 := rfl
  have n1 : ([] : List Int).length = 0 := rfl
  have hu := Tryd.underlying25
  have hfld := fieldFault_0
  have HB := Aside0.mk (below_alloc (below_alloc (Below.refl w.heap.size w) (.cells #[.int .i64 a0, .int .i64 a1, .int .i64 a2, .slice aA a3.length aa, .slice aB a4.length ab] 25)) (.cells #[.int .i64 c0, .int .i64 c1, .int .i64 c2, .int .i64 c3, .int .i64 c4, .slice cA c5.length ca, .slice cB c6.length cb] 44))
  have HA := Aside0.mk (blk_later (blk_at (w := w) (.cells #[.int .i64 a0, .int .i64 a1, .int .i64 a2, .slice aA a3.length aa, .slice aB a4.length ab] 25)) (.cells #[.int .i64 c0, .int .i64 c1, .int .i64 c2, .int .i64 c3, .int .i64 c4, .slice cA c5.length ca, .slice cB c6.length cb] 44))
  have HX := Aside0.mk (blk_at1 (w := w) (.cells #[.int .i64 a0, .int .i64 a1, .int .i64 a2, .slice aA a3.length aa, .slice aB a4.length ab] 25) (.cells #[.int .i64 c0, .int .i64 c1, .int .i64 c2, .int .i64 c3, .int .i64 c4, .slice cA c5.length ca, .slice cB c6.length cb] 44))
  go_enter Tryd.func4, Tryd.ntmps4
  go_wp2_with fail
  refine (HBX.out _).mono ?_
  rintro e w1 ⟨rfl, hb⟩
  replace HA := Aside0.mk (blk_call HA.out hb)
  replace HX := Aside0.mk (blk_call HX.out hb)
  replace HB := Aside0.mk (below_step HB.out hb)
  clear hb
  have kHA := bc0 HA.out
  have mHA := bc1 HA.out
  have nHA := bc2 HA.out
  have fHA := bf0 HA.out
  have yHA := blk_lt HA.out
  have kHX := bc0 HX.out
  have mHX := bc1 HX.out
  have nHX := bc2 HX.out
  have fHX := bf0 HX.out
  have yHX := blk_lt HX.out
  go_wp2_with fail
  clear kHA mHA nHA fHA yHA kHX mHX nHX fHX yHX
  refine (mailbox_Apply.calls k a0 a1 a2 aA aa a3 aB ab a4 c0 c1 c2 c3 c4 cA ca c5 cB cb c6 r0 r1 r2 r3 r4 s5 s6 _ (Kd.C_below HA3.out HB.out) ea3 (Kd.C_below HA4.out HB.out) ea4 (Kd.C_below HC5.out HB.out) ec5 (Kd.C_below HC6.out HB.out) ec6 P1.out).mono ?_
  rintro e w5 ⟨v3_, v4_, rfl, hv3_, hv4_, hb⟩
  obtain ⟨rA, ra, rfl⟩ := Kd.V_slice hv3_
  obtain ⟨rB, rb, rfl⟩ := Kd.V_slice hv4_
  have HrV := Aside0.mk hv3_
  have HrW := Aside0.mk hv4_
  clear hv3_ hv4_
  replace HA := Aside0.mk (blk_call HA.out hb)
  replace HX := Aside0.mk (blk_call HX.out hb)
  replace HB := Aside0.mk (below_step HB.out hb)
  clear hb
  have kHA := bc0 HA.out
  have mHA := bc1 HA.out
  have nHA := bc2 HA.out
  have fHA := bf0 HA.out
  have yHA := blk_lt HA.out
  go_wp2_with fail
  clear kHA mHA nHA fHA yHA
  have l1_t5 := blk_lt HA.out
  have l2_t5 := blk_lt HX.out
  replace HA := Aside0.mk (blk_later HA.out (.cells #[.int .i64 r0, .int .i64 r1, .int .i64 r2, .slice rA r3.length ra, .slice rB r4.length rb] 25))
  replace HX := Aside0.mk (blk_later HX.out (.cells #[.int .i64 r0, .int .i64 r1, .int .i64 r2, .slice rA r3.length ra, .slice rB r4.length rb] 25))
  replace HrV := Aside0.mk (Kd.V_alloc HrV.out (.cells #[.int .i64 r0, .int .i64 r1, .int .i64 r2, .slice rA r3.length ra, .slice rB r4.length rb] 25))
  replace HrW := Aside0.mk (Kd.V_alloc HrW.out (.cells #[.int .i64 r0, .int .i64 r1, .int .i64 r2, .slice rA r3.length ra, .slice rB r4.length rb] 25))
  replace HB := Aside0.mk (below_alloc HB.out (.cells #[.int .i64 r0, .int .i64 r1, .int .i64 r2, .slice rA r3.length ra, .slice rB r4.length rb] 25))
  have HM := Aside0.mk (blk_at (w := w5) (.cells #[.int .i64 r0, .int .i64 r1, .int .i64 r2, .slice rA r3.length ra, .slice rB r4.length rb] 25))
  have hs5 : (w5.alloc (.cells #[.int .i64 r0, .int .i64 r1, .int .i64 r2, .slice rA r3.length ra, .slice rB r4.length rb] 25)).heap.size = w5.heap.size + 1 := by simp
  generalize w5.alloc (.cells #[.int .i64 r0, .int .i64 r1, .int .i64 r2, .slice rA r3.length ra, .slice rB r4.length rb] 25) = X6 at *
  generalize w5.heap.size = t5 at *
  have l3_t51 := blk_lt HA.out
  have l4_t51 := blk_lt HX.out
  have l5_t51 := blk_lt HM.out
  replace HA := Aside0.mk (blk_later HA.out (.cells #[.int .i64 s5, .int .i64 s6] 35))
  replace HX := Aside0.mk (blk_later HX.out (.cells #[.int .i64 s5, .int .i64 s6] 35))
  replace HM := Aside0.mk (blk_later HM.out (.cells #[.int .i64 s5, .int .i64 s6] 35))
  replace HrV := Aside0.mk (Kd.V_alloc HrV.out (.cells #[.int .i64 s5, .int .i64 s6] 35))
  replace HrW := Aside0.mk (Kd.V_alloc HrW.out (.cells #[.int .i64 s5, .int .i64 s6] 35))
  replace HB := Aside0.mk (below_alloc HB.out (.cells #[.int .i64 s5, .int .i64 s6] 35))
  have HG := Aside0.mk (blk_at (w := X6) (.cells #[.int .i64 s5, .int .i64 s6] 35))
  rw [hs5] at HG l3_t51 l4_t51 l5_t51
  clear hs5
  generalize X6.alloc (.cells #[.int .i64 s5, .int .i64 s6] 35) = X7 at *
  refine (resync_Since.calls k r0 r1 r2 rA ra r3 rB rb r4 a1 [] [] 0 z _ (Kd.F_now (Kd.V_F HrV.out)) (Kd.V_at HrV.out).2.1 (Kd.F_now (Kd.V_F HrW.out)) (Kd.V_at HrW.out).2.1 U1.out).mono ?_
  rintro e w8 ⟨v0_, v1_, rfl, hv0, hv1, hb⟩
  obtain ⟨xA, xa, rfl⟩ := Kd.R_slice hv0
  obtain ⟨yA, ya, rfl⟩ := Kd.R_slice hv1
  clear hv0 hv1
  replace HA := Aside0.mk (blk_call HA.out hb)
  replace HX := Aside0.mk (blk_call HX.out hb)
  replace HM := Aside0.mk (blk_call HM.out hb)
  replace HG := Aside0.mk (blk_call HG.out hb)
  replace HrV := Aside0.mk (Kd.V_below HrV.out hb)
  replace HrW := Aside0.mk (Kd.V_below HrW.out hb)
  replace HB := Aside0.mk (below_step HB.out hb)
  clear hb
  clear HrV HrW
  have kHM := bc0 HM.out
  have mHM := bc1 HM.out
  have nHM := bc2 HM.out
  have fHM := bf0 HM.out
  have yHM := blk_lt HM.out
  have kHA := bc0 HA.out
  have mHA := bc1 HA.out
  have nHA := bc2 HA.out
  have fHA := bf0 HA.out
  have yHA := blk_lt HA.out
  have kHX := bc0 HX.out
  have mHX := bc1 HX.out
  have nHX := bc2 HX.out
  have fHX := bf0 HX.out
  have yHX := blk_lt HX.out
  go_wp2
  go_ret
  exact ⟨rfl, below_alloc HB.out _⟩
set_option maxHeartbeats 4000000 in
set_option maxRecDepth 100000 in
theorem ResyncTells_c (k : Nat) (a0 a1 a2 : Int) (aA : Option Addr) (aa : Nat) (a3 : List (S78)) (aB : Option Addr) (ab : Nat) (a4 : List (S73)) (c0 c1 c2 c3 c4 : Int) (cA : Option Addr) (ca : Nat) (c5 : List (S99)) (cB : Option Addr) (cb : Nat) (c6 : List Int) (r0 r1 r2 : Int) (r3 : List (S78)) (r4 : List (S73)) (s5 s6 : Int) (w : World) (ha3 : Kd.C k78 w aA a3.length a3) (ea3 : a3.length ≤ aa) (ha4 : Kd.C k73 w aB a4.length a4) (ea4 : a4.length ≤ ab) (hc5 : Kd.C k99 w cA c5.length c5) (ec5 : c5.length ≤ ca) (hc6 : Kd.C (Kd.int .u8) w cB c6.length c6) (ec6 : c6.length ≤ cb) (hbx : ∀ w, Calls Tryd.prog 11 #[] w fun e w' => e = .returned (.bool true) ∧ Below w.heap.size w w') (p1 : mailbox_Apply.f k a0 a1 a2 a3 a4 c0 c1 c2 c3 c4 c5 c6 = some (r0, r1, r2, r3, r4, s5, s6)) (q2 : (s5 != 0) = false) (xs : List (S58)) (ys : List Int) (z : Int) (u1 : resync_Since.f k r0 r1 r2 r3 r4 a1 = some (xs, ys, 0, z)) (q3 : (r1 == a1) = false) (q4 : IntKind.i64.wrap ((xs.length : Int) + (ys.length : Int)) = 1) (q5 : ((ys.length : Int) == 1) = (c0 == 3)) :
    Calls Tryd.prog 4 #[.agg #[.int .i64 a0, .int .i64 a1, .int .i64 a2, .slice aA a3.length aa, .slice aB a4.length ab], .agg #[.int .i64 c0, .int .i64 c1, .int .i64 c2, .int .i64 c3, .int .i64 c4, .slice cA c5.length ca, .slice cB c6.length cb]] w fun e w' => e = .returned (.bool true) ∧ Below w.heap.size w w' := by
  have HA3 := Aside0.mk ha3
  have HA4 := Aside0.mk ha4
  have HC5 := Aside0.mk hc5
  have HC6 := Aside0.mk hc6
  have HBX := Aside0.mk hbx
  have P1 := Aside0.mk p1
  have U1 := Aside0.mk u1
  clear ha3 ha4 hc5 hc6 hbx p1 u1
  have hu := Tryd.underlying25
  have hfld := fieldFault_0
  have HB := Aside0.mk (below_alloc (below_alloc (Below.refl w.heap.size w) (.cells #[.int .i64 a0, .int .i64 a1, .int .i64 a2, .slice aA a3.length aa, .slice aB a4.length ab] 25)) (.cells #[.int .i64 c0, .int .i64 c1, .int .i64 c2, .int .i64 c3, .int .i64 c4, .slice cA c5.length ca, .slice cB c6.length cb] 44))
  have HA := Aside0.mk (blk_later (blk_at (w := w) (.cells #[.int .i64 a0, .int .i64 a1, .int .i64 a2, .slice aA a3.length aa, .slice aB a4.length ab] 25)) (.cells #[.int .i64 c0, .int .i64 c1, .int .i64 c2, .int .i64 c3, .int .i64 c4, .slice cA c5.length ca, .slice cB c6.length cb] 44))
  have HX := Aside0.mk (blk_at1 (w := w) (.cells #[.int .i64 a0, .int .i64 a1, .int .i64 a2, .slice aA a3.length aa, .slice aB a4.length ab] 25) (.cells #[.int .i64 c0, .int .i64 c1, .int .i64 c2, .int .i64 c3, .int .i64 c4, .slice cA c5.length ca, .slice cB c6.length cb] 44))
  go_enter Tryd.func4, Tryd.ntmps4
  go_wp2_with fail
  refine (HBX.out _).mono ?_
  rintro e w1 ⟨rfl, hb⟩
  replace HA := Aside0.mk (blk_call HA.out hb)
  replace HX := Aside0.mk (blk_call HX.out hb)
  replace HB := Aside0.mk (below_step HB.out hb)
  clear hb
  have kHA := bc0 HA.out
  have mHA := bc1 HA.out
  have nHA := bc2 HA.out
  have fHA := bf0 HA.out
  have yHA := blk_lt HA.out
  have kHX := bc0 HX.out
  have mHX := bc1 HX.out
  have nHX := bc2 HX.out
  have fHX := bf0 HX.out
  have yHX := blk_lt HX.out
  go_wp2_with fail
  clear kHA mHA nHA fHA yHA kHX mHX nHX fHX yHX
  refine (mailbox_Apply.calls k a0 a1 a2 aA aa a3 aB ab a4 c0 c1 c2 c3 c4 cA ca c5 cB cb c6 r0 r1 r2 r3 r4 s5 s6 _ (Kd.C_below HA3.out HB.out) ea3 (Kd.C_below HA4.out HB.out) ea4 (Kd.C_below HC5.out HB.out) ec5 (Kd.C_below HC6.out HB.out) ec6 P1.out).mono ?_
  rintro e w5 ⟨v3_, v4_, rfl, hv3_, hv4_, hb⟩
  obtain ⟨rA, ra, rfl⟩ := Kd.V_slice hv3_
  obtain ⟨rB, rb, rfl⟩ := Kd.V_slice hv4_
  have HrV := Aside0.mk hv3_
  have HrW := Aside0.mk hv4_
  clear hv3_ hv4_
  replace HA := Aside0.mk (blk_call HA.out hb)
  replace HX := Aside0.mk (blk_call HX.out hb)
  replace HB := Aside0.mk (below_step HB.out hb)
  clear hb
  have kHA := bc0 HA.out
  have mHA := bc1 HA.out
  have nHA := bc2 HA.out
  have fHA := bf0 HA.out
  have yHA := blk_lt HA.out
  go_wp2_with fail
  clear kHA mHA nHA fHA yHA
  have l1_t5 := blk_lt HA.out
  have l2_t5 := blk_lt HX.out
  replace HA := Aside0.mk (blk_later HA.out (.cells #[.int .i64 r0, .int .i64 r1, .int .i64 r2, .slice rA r3.length ra, .slice rB r4.length rb] 25))
  replace HX := Aside0.mk (blk_later HX.out (.cells #[.int .i64 r0, .int .i64 r1, .int .i64 r2, .slice rA r3.length ra, .slice rB r4.length rb] 25))
  replace HrV := Aside0.mk (Kd.V_alloc HrV.out (.cells #[.int .i64 r0, .int .i64 r1, .int .i64 r2, .slice rA r3.length ra, .slice rB r4.length rb] 25))
  replace HrW := Aside0.mk (Kd.V_alloc HrW.out (.cells #[.int .i64 r0, .int .i64 r1, .int .i64 r2, .slice rA r3.length ra, .slice rB r4.length rb] 25))
  replace HB := Aside0.mk (below_alloc HB.out (.cells #[.int .i64 r0, .int .i64 r1, .int .i64 r2, .slice rA r3.length ra, .slice rB r4.length rb] 25))
  have HM := Aside0.mk (blk_at (w := w5) (.cells #[.int .i64 r0, .int .i64 r1, .int .i64 r2, .slice rA r3.length ra, .slice rB r4.length rb] 25))
  have hs5 : (w5.alloc (.cells #[.int .i64 r0, .int .i64 r1, .int .i64 r2, .slice rA r3.length ra, .slice rB r4.length rb] 25)).heap.size = w5.heap.size + 1 := by simp
  generalize w5.alloc (.cells #[.int .i64 r0, .int .i64 r1, .int .i64 r2, .slice rA r3.length ra, .slice rB r4.length rb] 25) = X6 at *
  generalize w5.heap.size = t5 at *
  have l3_t51 := blk_lt HA.out
  have l4_t51 := blk_lt HX.out
  have l5_t51 := blk_lt HM.out
  replace HA := Aside0.mk (blk_later HA.out (.cells #[.int .i64 s5, .int .i64 s6] 35))
  replace HX := Aside0.mk (blk_later HX.out (.cells #[.int .i64 s5, .int .i64 s6] 35))
  replace HM := Aside0.mk (blk_later HM.out (.cells #[.int .i64 s5, .int .i64 s6] 35))
  replace HrV := Aside0.mk (Kd.V_alloc HrV.out (.cells #[.int .i64 s5, .int .i64 s6] 35))
  replace HrW := Aside0.mk (Kd.V_alloc HrW.out (.cells #[.int .i64 s5, .int .i64 s6] 35))
  replace HB := Aside0.mk (below_alloc HB.out (.cells #[.int .i64 s5, .int .i64 s6] 35))
  have HG := Aside0.mk (blk_at (w := X6) (.cells #[.int .i64 s5, .int .i64 s6] 35))
  rw [hs5] at HG l3_t51 l4_t51 l5_t51
  clear hs5
  generalize X6.alloc (.cells #[.int .i64 s5, .int .i64 s6] 35) = X7 at *
  refine (resync_Since.calls k r0 r1 r2 rA ra r3 rB rb r4 a1 xs ys 0 z _ (Kd.F_now (Kd.V_F HrV.out)) (Kd.V_at HrV.out).2.1 (Kd.F_now (Kd.V_F HrW.out)) (Kd.V_at HrW.out).2.1 U1.out).mono ?_
  rintro e w8 ⟨v0_, v1_, rfl, hv0, hv1, hb⟩
  obtain ⟨xA, xa, rfl⟩ := Kd.R_slice hv0
  obtain ⟨yA, ya, rfl⟩ := Kd.R_slice hv1
  clear hv0 hv1
  replace HA := Aside0.mk (blk_call HA.out hb)
  replace HX := Aside0.mk (blk_call HX.out hb)
  replace HM := Aside0.mk (blk_call HM.out hb)
  replace HG := Aside0.mk (blk_call HG.out hb)
  replace HrV := Aside0.mk (Kd.V_below HrV.out hb)
  replace HrW := Aside0.mk (Kd.V_below HrW.out hb)
  replace HB := Aside0.mk (below_step HB.out hb)
  clear hb
  clear HrV HrW
  have kHM := bc0 HM.out
  have mHM := bc1 HM.out
  have nHM := bc2 HM.out
  have fHM := bf0 HM.out
  have yHM := blk_lt HM.out
  have kHA := bc0 HA.out
  have mHA := bc1 HA.out
  have nHA := bc2 HA.out
  have fHA := bf0 HA.out
  have yHA := blk_lt HA.out
  have kHX := bc0 HX.out
  have mHX := bc1 HX.out
  have nHX := bc2 HX.out
  have fHX := bf0 HX.out
  have yHX := blk_lt HX.out
  go_wp2
  go_ret
  exact ⟨rfl, below_alloc HB.out _⟩


end Go.Proofs.YtjmnaipoccpbmaaDoor.P
end
/- Functions of this seat as Lean functions, and that the Go code comes to their answers: written by a program of this session's. -/
section
namespace Go.Proofs.YtjmnaipoccpbmaaDoor.P
open Go.RowKit Go.Proofs.YtjmnaipoccpbmaaDoorW.PrintWords Go.Proofs.YtjmnaipoccpbmaaDoorW.PrintLast Go.Proofs.YtjmnaipoccpbmaaDoorW.PrintMore
attribute [local go_sem] max2_int min2_int max_two min_two max_three min_three max_four min_four   -- for this text's walks alone
set_option linter.unusedVariables false
set_option linter.unusedSimpArgs false

theorem eqA58 (d : Nat) (w : World) (x0 y0 : Int) (x1 y1 : Int) :
    (Op.equalIn (d + 2) 58 (.agg #[.int .i64 x0, .int .i64 x1]) (.agg #[.int .i64 y0, .int .i64 y1])).run Tryd.prog w = .ok (x0 == y0 && (x1 == y1)) w := by
  refine eqA_of Tryd.underlying58 (by kernel_rfl) ?_
  refine eqf_cons (by rfl) (by go_simp; rfl) (by go_simp; rfl) (by go_simp) ?_
  exact eqf_last (by rfl) (by go_simp; rfl) (by go_simp; rfl) (by go_simp)
end Go.Proofs.YtjmnaipoccpbmaaDoor.P
end
/- Functions of this seat as Lean functions, and that the Go code comes to their answers: written by a program of this session's. -/
section
namespace Go.Proofs.YtjmnaipoccpbmaaDoor.P
open Go.RowKit Go.Proofs.YtjmnaipoccpbmaaDoorW.PrintWords Go.Proofs.YtjmnaipoccpbmaaDoorW.PrintLast Go.Proofs.YtjmnaipoccpbmaaDoorW.PrintMore
attribute [local go_sem] max2_int min2_int max_two min_two max_three min_three max_four min_four   -- for this text's walks alone
set_option linter.unusedVariables false
set_option linter.unusedSimpArgs false

attribute [local go_sem high] eqA58
/-! ### posthouseref8_SameSeen: function 17 -/
def posthouseref8_SameSeen.l0 : Nat → List (S58) → List (S58) → Int → Option (Bool)
  | 0, _, _, _ => none
  | k + 1, x0, x1, x5 => if x5 < (x0.length : Int) then (if 0 ≤ x5 then (if x5 < (x1.length : Int) then (if (!(((rd_T58 x0 x5).f0) == ((rd_T58 x1 x5).f0)) || (!(((rd_T58 x0 x5).f1) == ((rd_T58 x1 x5).f1)))) = true then (some false) else (posthouseref8_SameSeen.l0 k x0 x1 (wrap64 (x5 + 1)))) else (none)) else (none)) else (some true)
def posthouseref8_SameSeen.f (k : Nat) (l0 : List (S58)) (l1 : List (S58)) : Option (Bool) := if (l0.length : Int) = (l1.length : Int) then (posthouseref8_SameSeen.l0 k l0 l1 0) else (some false)
theorem posthouseref8_SameSeen.mono_l : ∀ k, (∀ y0 y1 y2, LeO (posthouseref8_SameSeen.l0 k y0 y1 y2) (posthouseref8_SameSeen.l0 (k + 1) y0 y1 y2))
  | 0 => fun _ _ _ r h => by simp [posthouseref8_SameSeen.l0] at h
  | k + 1 => by
    have ih0 := posthouseref8_SameSeen.mono_l k
    · intro y0 y1 y2
      unfold posthouseref8_SameSeen.l0
      repeat' first
      | (with_reducible exact ih0 _ _ _)
      | (with_reducible exact LeO.refl _)
      | (with_reducible exact LeO.none _)
      | (with_reducible refine LeO.ite ?_ ?_)
      | (with_reducible refine LeO.bind ?_ (fun _ => ?_))
      | exact ih0 _ _ _
      | exact LeO.none _
      | refine LeO.ite ?_ ?_
      | refine LeO.bind ?_ (fun _ => ?_)
theorem posthouseref8_SameSeen.mono : ∀ a0 a1 k, LeO (posthouseref8_SameSeen.f k a0 a1) (posthouseref8_SameSeen.f (k + 1) a0 a1) := by
  intro a0 a1 k
  have ih0 := posthouseref8_SameSeen.mono_l k
  unfold posthouseref8_SameSeen.f
  repeat' first
      | (with_reducible exact ih0 _ _ _)
      | (with_reducible exact LeO.refl _)
      | (with_reducible exact LeO.none _)
      | (with_reducible refine LeO.ite ?_ ?_)
      | (with_reducible refine LeO.bind ?_ (fun _ => ?_))
      | exact ih0 _ _ _
      | exact LeO.none _
      | refine LeO.ite ?_ ?_
      | refine LeO.bind ?_ (fun _ => ?_)
set_option maxHeartbeats 8000000 in
set_option maxRecDepth 100000 in
theorem posthouseref8_SameSeen.calls (k : Nat) (A0 : Option Addr) (c0 : Nat) (l0 : List (S58)) (A1 : Option Addr) (c1 : Nat) (l1 : List (S58)) (r : Bool) (w : World) (hr0 : Kd.C k58 w A0 l0.length l0) (hc0 : l0.length ≤ c0) (hr1 : Kd.C k58 w A1 l1.length l1) (hc1 : l1.length ≤ c1) (h : posthouseref8_SameSeen.f k l0 l1 = some r) :
    Calls Tryd.prog 17 #[.slice A0 l0.length c0, .slice A1 l1.length c1] w fun e w' => e = .returned (.bool r) ∧ Drawn0 w w' := by
  have hu58 := Tryd.underlying58
  have HR0 := Aside0.mk hr0
  have HC0 := Aside0.mk hc0
  clear hr0 hc0
  have HR1 := Aside0.mk hr1
  have HC1 := Aside0.mk hc1
  clear hr1 hc1
  have H : (if (l0.length : Int) = (l1.length : Int) then (posthouseref8_SameSeen.l0 k l0 l1 0) else (some false)) = some r := h
  clear h
  by_cases c3 : (l0.length : Int) = (l1.length : Int)
  · rw [if_pos c3] at H
    have c3b0 : ((l0.length : Int) == (l1.length : Int)) = true := beq_iff_eq.mpr c3
    have c3b1 : ((l0.length : Int) != (l1.length : Int)) = false := bne_eq_false_iff_eq.mpr c3
    have c3b2 : (l0.length == l1.length) = true := by first | simpa using c3 | (simp at c3 ⊢; omega)
    clear c3
    have H' := Aside0.mk H
    clear H
    go_enter Tryd.func17, Tryd.ntmps17
    go_wp2
    repeat (go_quiet (fail); try go_wp2)
    go_loopg [5] k (fun kq v5 w' => ∃ (x5_1 : Int), v5 = .int .i64 x5_1 ∧ Aside0 (posthouseref8_SameSeen.l0 kq l0 l1 x5_1 = some r) ∧ Aside0 (kq ≤ k) ∧ Drawn0 w w')
    case atStart => exact ⟨(0), (by first | rfl | (simp; done) | (simp [*]; done)), H', ⟨Nat.le_refl _⟩, by repeat (first | exact Drawn0.refl _ | apply Drawn0.step)⟩
    case round =>
      clear H'
      try clear c1
      try clear p2
      try clear c3
      try clear c3b0
      try clear c3b1
      try clear c3b2
      obtain ⟨x5_1, rfl, HA, HK1, ⟨m1, rfl⟩⟩ := hrel
      cases gk with
      | zero => exact absurd HA.out (by simp [posthouseref8_SameSeen.l0])
      | succ k1 =>
        have H := HA.out
        clear HA
        simp only [posthouseref8_SameSeen.l0] at H
        by_cases c4 : x5_1 < (l0.length : Int)
        · rw [if_pos c4] at H
          have c4b0 : decide (x5_1 < (l0.length : Int)) = true := decide_eq_true c4
          clear c4
          by_cases c5 : 0 ≤ x5_1
          · rw [if_pos c5] at H
            have c5b0 : decide (0 ≤ x5_1) = true := decide_eq_true c5
            clear c5
            by_cases c6 : x5_1 < (l1.length : Int)
            · rw [if_pos c6] at H
              have c6b0 : decide (x5_1 < (l1.length : Int)) = true := decide_eq_true c6
              clear c6
              by_cases c7 : (!(((rd_T58 l0 x5_1).f0) == ((rd_T58 l1 x5_1).f0)) || (!(((rd_T58 l0 x5_1).f1) == ((rd_T58 l1 x5_1).f1)))) = true
              · rw [if_pos c7] at H
                have c7b0 : (!(((rd_T58 l0 x5_1).f0) == ((rd_T58 l1 x5_1).f0)) || (!(((rd_T58 l0 x5_1).f1) == ((rd_T58 l1 x5_1).f1)))) = true := c7
                clear c7
                obtain rfl := Option.some.inj H
                have p154 : 0 ≤ (x5_1 : Int) := of_decide_eq_true (by first | (with_reducible assumption) | assumption)
                have q154 : x5_1 < (l0.length : Int) := of_decide_eq_true (by first | (with_reducible assumption) | assumption)
                obtain ⟨ad154, e154, hx154_0, hx154_1⟩ := at_T58 HR0.out x5_1 p154 q154
                cases e154
                replace p154 := eq_true p154
                replace q154 := eq_true q154
                have p155 : 0 ≤ (x5_1 : Int) := of_decide_eq_true (by first | (with_reducible assumption) | assumption)
                have q155 : x5_1 < (l1.length : Int) := of_decide_eq_true (by first | (with_reducible assumption) | assumption)
                obtain ⟨ad155, e155, hx155_0, hx155_1⟩ := at_T58 HR1.out x5_1 p155 q155
                cases e155
                replace p155 := eq_true p155
                replace q155 := eq_true q155
                go_wp2
                repeat (go_quiet (fail); try go_wp2)
                go_ret
                exact ⟨by first | rfl | (simp; done) | (simp [*]; done), by repeat (first | exact Drawn0.refl _ | apply Drawn0.step)⟩
              · rw [if_neg c7] at H
                have c7b0 : (!(((rd_T58 l0 x5_1).f0) == ((rd_T58 l1 x5_1).f0)) || (!(((rd_T58 l0 x5_1).f1) == ((rd_T58 l1 x5_1).f1)))) = false := by simpa using c7
                clear c7
                have H' := Aside0.mk H
                clear H
                have p154 : 0 ≤ (x5_1 : Int) := of_decide_eq_true (by first | (with_reducible assumption) | assumption)
                have q154 : x5_1 < (l0.length : Int) := of_decide_eq_true (by first | (with_reducible assumption) | assumption)
                obtain ⟨ad154, e154, hx154_0, hx154_1⟩ := at_T58 HR0.out x5_1 p154 q154
                cases e154
                replace p154 := eq_true p154
                replace q154 := eq_true q154
                have p155 : 0 ≤ (x5_1 : Int) := of_decide_eq_true (by first | (with_reducible assumption) | assumption)
                have q155 : x5_1 < (l1.length : Int) := of_decide_eq_true (by first | (with_reducible assumption) | assumption)
                obtain ⟨ad155, e155, hx155_0, hx155_1⟩ := at_T58 HR1.out x5_1 p155 q155
                cases e155
                replace p155 := eq_true p155
                replace q155 := eq_true q155
                go_wp2
                repeat (go_quiet (fail); try go_wp2)
                go_roundg k1
                case measure => have := HK1.out; omega
                case rel => exact ⟨(wrap64 (x5_1 + 1)), (by first | rfl | (simp; done) | (simp [*]; done)), H', ⟨by have := HK1.out; omega⟩, by repeat (first | exact Drawn0.refl _ | apply Drawn0.step)⟩
            · rw [if_neg c6] at H
              exact absurd H (by simp)
          · rw [if_neg c5] at H
            exact absurd H (by simp)
        · rw [if_neg c4] at H
          have c4b0 : decide (x5_1 < (l0.length : Int)) = false := decide_eq_false c4
          clear c4
          obtain rfl := Option.some.inj H
          go_wp2
          repeat (go_quiet (fail); try go_wp2)
          go_ret
          exact ⟨by first | rfl | (simp; done) | (simp [*]; done), by repeat (first | exact Drawn0.refl _ | apply Drawn0.step)⟩
  · rw [if_neg c3] at H
    have c3b0 : ((l0.length : Int) == (l1.length : Int)) = false := beq_eq_false_iff_ne.mpr c3
    have c3b1 : ((l0.length : Int) != (l1.length : Int)) = true := bne_iff_ne.mpr c3
    have c3b2 : (l0.length == l1.length) = false := by first | simpa using c3 | (simp at c3 ⊢; omega)
    obtain rfl := Option.some.inj H
    go_enter Tryd.func17, Tryd.ntmps17
    go_wp2
    repeat (go_quiet (fail); try go_wp2)
    go_ret
    exact ⟨by first | rfl | (simp; done) | (simp [*]; done), by repeat (first | exact Drawn0.refl _ | apply Drawn0.step)⟩

end Go.Proofs.YtjmnaipoccpbmaaDoor.P
end
