/- Several texts in one, each in its own section. The last: Functions of this seat as Lean functions, and that the Go code comes to their answers: written by a program of this session's. -/
import Derived.Test.YtbnmddippoiabaaDoorO6x10
import Derived.Test.YtbnmddippoiabaaDoorO6x18
/- Functions of this seat as Lean functions, and that the Go code comes to their answers: written by a program of this session's. -/
section
namespace Go.Proofs.YtbnmddippoiabaaDoor.P
open Go.RowKit Go.Proofs.YtbnmddippoiabaaDoorW.PrintWords Go.Proofs.YtbnmddippoiabaaDoorW.PrintLast Go.Proofs.YtbnmddippoiabaaDoorW.PrintMore
attribute [local go_sem] max2_int min2_int max_two min_two max_three min_three max_four min_four   -- for this text's walks alone
set_option linter.unusedVariables false
set_option linter.unusedSimpArgs false

/-! ### mailbox_Place: function 26 -/
def placeFrom : List S55 → Int → Int → Int
  | [], _, _ => -1
  | x :: r, u, i => if x.f0 = u then i else placeFrom r u (i + 1)
def mailbox_Place.f (_a0_0 : Int) (_a0_1 : Int) (_a0_2 : Int) (l0_3 : List (S55)) (_l0_4 : List (S75)) (a1 : Int) : Option (Int) := some (placeFrom l0_3 a1 0)
set_option maxHeartbeats 1000000 in
/-- The function literal in Place. -/
theorem place1_any (x : S55) (v4 v5 : Value) (u : Int) (g : Nat) (W : World) (hu : W.cell? ⟨g, 0, none⟩ = some (.int .i64 u)) :
    Calls Tryd.prog 47 (#[.agg #[.int .i64 x.f0, .int .i64 x.f1, .int .i64 x.f2, .int .i64 x.f3, v4, v5]] ++ #[.pointer (some ⟨g, 0, none⟩)]) W fun e w' => e = .returned (.bool (x.f0 == u)) ∧ Below W.heap.size W w' := by
  have hc := cell1 hu
  go_enter Tryd.func47, Tryd.ntmps47
  go_wp2
  go_ret
  exact ⟨rfl, below_alloc (Below.refl _ _) _⟩
theorem placeFrom_miss : ∀ (l : List S55) (u i : Int), (∀ x ∈ l, x.f0 ≠ u) → placeFrom l u i = -1
  | [], _, _, _ => rfl
  | x :: r, u, i, h => by
    unfold placeFrom
    rw [if_neg (h x List.mem_cons_self)]
    exact placeFrom_miss r u (i + 1) (fun y hy => h y (List.mem_cons_of_mem _ hy))
theorem placeFrom_hit : ∀ (l : List S55) (u i : Int) (n : Nat) (x : S55), l[n]? = some x → x.f0 = u → (∀ j y, j < n → l[j]? = some y → y.f0 ≠ u) → placeFrom l u i = i + n
  | [], _, _, n, _, h, _, _ => by simp at h
  | y :: r, u, i, 0, x, h, hx, _ => by
    simp at h
    subst h
    unfold placeFrom
    rw [if_pos hx]
    simp
  | y :: r, u, i, n + 1, x, h, hx, hm => by
    unfold placeFrom
    rw [if_neg (hm 0 y (by omega) rfl), placeFrom_hit r u (i + 1) n x (by simpa using h) hx (fun j z hj hz => hm (j + 1) z (by omega) (by simpa using hz))]
    omega
set_option maxHeartbeats 2000000 in
/-- slices.IndexFunc at messages, with that function literal. -/
theorem idxStored_any (A : Option Addr) (c : Nat) (l : List S55) (u : Int) (g : Nat) (w : World) (hr : Kd.C k55 w A l.length l) (hu : w.cell? ⟨g, 0, none⟩ = some (.int .i64 u)) :
    Calls Tryd.prog 46 #[.slice A l.length c, .func (.func 47) #[] #[.pointer (some ⟨g, 0, none⟩)]] w fun e w' => e = .returned (.int .i64 (placeFrom l u 0)) ∧ Below w.heap.size w w' := by
  have n3 := hr.2.1
  have HR := Aside0.mk hr
  have HU := Aside0.mk hu
  clear hr hu
  have eg := enters_of Tryd.func47 (by kernel_rfl) rfl
  unfold Enters at eg
  go_enter Tryd.func46, Tryd.ntmps46
  go_wp2
  go_loopg [8] (l.length) (fun gg v8 W => ∃ i : Nat, i ≤ l.length ∧ l.length - i ≤ gg ∧ v8 = .int .i64 i ∧ Aside0 (∀ j y, j < i → l[j]? = some y → y.f0 ≠ u) ∧ Aside0 (Below w.heap.size w W))
  case atStart => exact ⟨0, Nat.zero_le _, Nat.le_refl _, rfl, ⟨fun j y hj => absurd hj (Nat.not_lt_zero _)⟩, ⟨Below.refl _ _⟩⟩
  case round =>
    obtain ⟨i, hi, hg, rfl, HA, HB⟩ := hrel
    by_cases hlt : i < l.length
    · obtain ⟨ad, A4, c4, A5, c5, e', q0, q1, q2, q3, q4, q5, -⟩ := at_T55 (Kd.C_below HR.out HB.out) (i : Int) (by omega) (by omega)
      subst e'
      simp only [Int.toNat_natCast] at q0 q1 q2 q3 q4 q5
      have hget : l[i]? = some (rd_T55 l i) := by
        rw [rd_T55, Int.toNat_natCast, List.getD_eq_getElem?_getD, List.getElem?_eq_getElem hlt]; rfl
      have hp := place1_any (rd_T55 l i) (.slice A4 (rd_T55 l i).f4.f0.length c4) (.slice A5 (rd_T55 l i).f4.f1.length c5) u g wr (cell_later HU.out HB.out)
      generalize hx : rd_T55 l i = x at *
      have HX := Aside0.mk hx
      have HG := Aside0.mk hget
      clear hx hget
      by_cases he : x.f0 = u
      · have hb : (x.f0 == u) = true := beq_iff_eq.2 he
        have HE := Aside0.mk he
        clear he
        rw [hb] at hp
        go_wp2_with (first | (go_at_call 47; refine hp.mono ?_; rintro e w2 ⟨rfl, hb2⟩))
        go_ret
        exact ⟨by rw [placeFrom_hit l u 0 i x HG.out HE.out HA.out]; simp, below_step HB.out hb2⟩
      · have hb : (x.f0 == u) = false := beq_eq_false_iff_ne.2 he
        have HE := Aside0.mk he
        clear he
        rw [hb] at hp
        go_wp2_with (first | (go_at_call 47; refine hp.mono ?_; rintro e w2 ⟨rfl, hb2⟩))
        go_roundg (l.length - (i + 1))
        case measure => omega
        case rel =>
          refine ⟨i + 1, by omega, by omega, by go_num, ⟨fun j y hj hy => ?_⟩, ⟨below_step HB.out hb2⟩⟩
          by_cases e : j = i
          · subst e
            rw [HG.out] at hy
            injection hy with hy
            subst hy
            exact HE.out
          · exact HA.out j y (by omega) hy
    · go_wp2
      go_ret
      exact ⟨by rw [placeFrom_miss l u 0 (fun x hx => by obtain ⟨j, hj⟩ := List.mem_iff_getElem?.1 hx; have h1 := (List.getElem?_eq_some_iff.1 hj).1; exact HA.out j x (by omega) hj)]; rfl, HB.out⟩
set_option maxHeartbeats 1000000 in
theorem mailbox_Place.calls (a0_0 : Int) (a0_1 : Int) (a0_2 : Int) (A0_3 : Option Addr) (c0_3 : Nat) (l0_3 : List (S55)) (A0_4 : Option Addr) (c0_4 : Nat) (l0_4 : List (S75)) (a1 : Int) (r : Int) (w : World) (hr0_3 : Kd.C k55 w A0_3 l0_3.length l0_3) (hc0_3 : l0_3.length ≤ c0_3) (hr0_4 : Kd.C k75 w A0_4 l0_4.length l0_4) (hc0_4 : l0_4.length ≤ c0_4) (h : mailbox_Place.f a0_0 a0_1 a0_2 l0_3 l0_4 a1 = some r) :
    Calls Tryd.prog 26 #[.agg #[.int .i64 a0_0, .int .i64 a0_1, .int .i64 a0_2, .slice A0_3 l0_3.length c0_3, .slice A0_4 l0_4.length c0_4], .int .i64 a1] w fun e w' => e = .returned (.int .i64 r) ∧ Below w.heap.size w w' := by
  cases h
  go_enter Tryd.func26, Tryd.ntmps26
  go_wp2_with (first | (go_at_call 46; refine (idxStored_any _ _ l0_3 a1 _ _ ?s1 ?s2).mono ?_; (case s1 => exact Kd.C_below hr0_3 (below_alloc (below_alloc (Below.refl _ _) _) _)); (case s2 => exact (blk_cell (blk_at1 _ _) 0).trans rfl); rintro e w2 ⟨rfl, hb⟩))
  go_ret
  exact ⟨rfl, below_step (below_alloc (below_alloc (Below.refl _ _) _) _) hb⟩


end Go.Proofs.YtbnmddippoiabaaDoor.P
end
/- Functions of this seat as Lean functions, and that the Go code comes to their answers: written by a program of this session's. -/
section
namespace Go.Proofs.YtbnmddippoiabaaDoor.P
open Go.RowKit Go.Proofs.YtbnmddippoiabaaDoorW.PrintWords Go.Proofs.YtbnmddippoiabaaDoorW.PrintLast Go.Proofs.YtbnmddippoiabaaDoorW.PrintMore
attribute [local go_sem] max2_int min2_int max_two min_two max_three min_three max_four min_four   -- for this text's walks alone
set_option linter.unusedVariables false
set_option linter.unusedSimpArgs false

/-! ### mailbox_gone: function 37 -/
def mailbox_gone.f (a0_0 : Int) (a0_1 : Int) (a0_2 : Int) (l0_3 : List (S55)) (l0_4 : List (S75)) (a1 : Int) : Option (Int) :=
  if 0 ≤ a1 ∧ a1 < l0_4.length then
    let g := rd_T75 l0_4 a1
    if (inB g.f0 1 (wrap64 (a0_0 - 1)) && inB g.f1 (wrap64 (a0_2 + 1)) (wrap64 (a0_1 - 1))) = false then some 3
    else if 0 < a1 ∧ g.f1 ≤ (rd_T75 l0_4 (a1 - 1)).f1 then some 19
    else if 0 ≤ placeFrom l0_3 g.f0 0 ∨ (l0_4.take a1.toNat).any (fun x => x.f0 == g.f0) = true then some 7
    else some 0
  else none
set_option maxHeartbeats 1000000 in
/-- The function literal in gone. -/
theorem gone1_any (x : S75) (u s : Int) (g : Nat) (W : World) (hu : W.cell? ⟨g, 0, none⟩ = some (.int .i64 u)) :
    Calls Tryd.prog 55 (#[.agg #[.int .i64 x.f0, .int .i64 x.f1]] ++ #[.pointer (some ⟨g, 0, none⟩)]) W fun e w' => e = .returned (.bool (x.f0 == u)) ∧ Below W.heap.size W w' := by
  have hc := cell1 hu
  go_enter Tryd.func55, Tryd.ntmps55
  go_wp2
  go_ret
  exact ⟨rfl, below_alloc (Below.refl _ _) _⟩
set_option maxHeartbeats 2000000 in
/-- slices.ContainsFunc at removals, with that function literal. -/
theorem hasGone_any (A : Option Addr) (n c : Nat) (l : List S75) (hn : l.length = n) (u : Int) (g : Nat) (w : World) (hr : Kd.C k75 w A l.length l) (hu : w.cell? ⟨g, 0, none⟩ = some (.int .i64 u)) :
    Calls Tryd.prog 54 #[.slice A n c, .func (.func 55) #[] #[.pointer (some ⟨g, 0, none⟩)]] w fun e w' => e = .returned (.bool (l.any fun x => x.f0 == u)) ∧ Below w.heap.size w w' := by
  subst hn
  have hidx : Calls Tryd.prog 72 #[.slice A l.length c, .func (.func 55) #[] #[.pointer (some ⟨g, 0, none⟩)]] w fun e w' => (∃ n : Int, e = .returned (.int .i64 n) ∧ decide (0 ≤ n) = (l.any fun x => x.f0 == u)) ∧ Below w.heap.size w w' := by
    have n3 := hr.2.1
    have HR := Aside0.mk hr
    have HU := Aside0.mk hu
    clear hr hu
    have eg := enters_of Tryd.func55 (by kernel_rfl) rfl
    unfold Enters at eg
    go_enter Tryd.func72, Tryd.ntmps72
    go_wp2
    go_loopg [8] (l.length) (fun gg v8 W => ∃ i : Nat, i ≤ l.length ∧ l.length - i ≤ gg ∧ v8 = .int .i64 i ∧ Aside0 (∀ j y, j < i → l[j]? = some y → y.f0 ≠ u) ∧ Aside0 (Below w.heap.size w W))
    case atStart => exact ⟨0, Nat.zero_le _, Nat.le_refl _, rfl, ⟨fun j y hj => absurd hj (Nat.not_lt_zero _)⟩, ⟨Below.refl _ _⟩⟩
    case round =>
      obtain ⟨i, hi, hg, rfl, HA, HB⟩ := hrel
      by_cases hlt : i < l.length
      · obtain ⟨ad, e', q0, q1⟩ := at_T75 (Kd.C_below HR.out HB.out) (i : Int) (by omega) (by omega)
        subst e'
        simp only [Int.toNat_natCast] at q0 q1
        have hget : l[i]? = some (rd_T75 l i) := by
          rw [rd_T75, Int.toNat_natCast, List.getD_eq_getElem?_getD, List.getElem?_eq_getElem hlt]; rfl
        have hp := gone1_any (rd_T75 l i) u 0 g wr (cell_later HU.out HB.out)
        generalize hx : rd_T75 l i = x at *
        have HX := Aside0.mk hx
        have HG := Aside0.mk hget
        clear hx hget
        by_cases he : x.f0 = u
        · have hb : (x.f0 == u) = true := beq_iff_eq.2 he
          have HE := Aside0.mk hb
          rw [hb] at hp
          clear he hb
          go_wp2_with (first | (go_at_call 55; refine hp.mono ?_; rintro e w2 ⟨rfl, hb2⟩))
          go_ret
          refine ⟨⟨_, rfl, ?_⟩, below_step HB.out hb2⟩
          rw [List.any_eq_true.2 ⟨x, List.mem_of_getElem? HG.out, HE.out⟩]
          exact decide_eq_true (by omega)
        · have hb : (x.f0 == u) = false := beq_eq_false_iff_ne.2 he
          have HE := Aside0.mk he
          clear he
          rw [hb] at hp
          go_wp2_with (first | (go_at_call 55; refine hp.mono ?_; rintro e w2 ⟨rfl, hb2⟩))
          go_roundg (l.length - (i + 1))
          case measure => omega
          case rel =>
            refine ⟨i + 1, by omega, by omega, by go_num, ⟨fun j y hj hy => ?_⟩, ⟨below_step HB.out hb2⟩⟩
            by_cases e : j = i
            · subst e
              rw [HG.out] at hy
              injection hy with hy
              subst hy
              exact HE.out
            · exact HA.out j y (by omega) hy
      · go_wp2
        go_ret
        refine ⟨⟨_, rfl, ?_⟩, HB.out⟩
        have : (l.any fun x => x.f0 == u) = false := by
          rw [List.any_eq_false]
          intro x hx
          obtain ⟨j, hj⟩ := List.mem_iff_getElem?.1 hx
          have h1 := (List.getElem?_eq_some_iff.1 hj).1
          simpa using HA.out j x (by omega) hj
        rw [this]
        rfl
  clear hr hu
  generalize (l.any fun x => x.f0 == u) = b at *
  have HI := Aside0.mk hidx
  clear hidx
  go_enter Tryd.func54, Tryd.ntmps54
  go_wp2_with (first | (go_at_call 72; refine HI.out.mono ?_; rintro e w2 ⟨⟨n, rfl, hn⟩, hb⟩))
  go_ret
  exact ⟨by rw [← hn]; rfl, hb⟩
set_option maxHeartbeats 4000000 in
set_option maxRecDepth 100000 in
theorem mailbox_gone.calls (a0_0 : Int) (a0_1 : Int) (a0_2 : Int) (A0_3 : Option Addr) (c0_3 : Nat) (l0_3 : List (S55)) (A0_4 : Option Addr) (c0_4 : Nat) (l0_4 : List (S75)) (a1 : Int) (r : Int) (w : World) (hr0_3 : Kd.C k55 w A0_3 l0_3.length l0_3) (hc0_3 : l0_3.length ≤ c0_3) (hr0_4 : Kd.C k75 w A0_4 l0_4.length l0_4) (hc0_4 : l0_4.length ≤ c0_4) (h : mailbox_gone.f a0_0 a0_1 a0_2 l0_3 l0_4 a1 = some r) :
    Calls Tryd.prog 37 #[.agg #[.int .i64 a0_0, .int .i64 a0_1, .int .i64 a0_2, .slice A0_3 l0_3.length c0_3, .slice A0_4 l0_4.length c0_4], .int .i64 a1] w fun e w' => e = .returned (.int .i64 r) ∧ Below w.heap.size w w' := by
  unfold mailbox_gone.f at h
  split at h
  case isFalse => cases h
  case isTrue h0 =>
  obtain ⟨h0, h1⟩ := h0
  have n4 := hr0_4.2.1
  obtain ⟨ad, e', q0, q1⟩ := at_T75 hr0_4 a1 h0 h1
  subst e'
  have hT : Kd.C k75 w (some ad) (l0_4.take a1.toNat).length (l0_4.take a1.toNat) := Kd.C_take hr0_4 (by omega)
  have hlen : (l0_4.take a1.toNat).length = a1.toNat := by rw [List.length_take]; omega
  have q0' := cell1 q0
  have q1' := cell1 q1
  have HR3 := Aside0.mk hr0_3
  have hr4 := hr0_4
  have HR4 := Aside0.mk hr0_4
  clear hr0_3 hr0_4
  have H := Aside0.mk h
  clear h
  generalize hgu : (rd_T75 l0_4 a1).f0 = gu at *
  generalize hgs : (rd_T75 l0_4 a1).f1 = gs at *
  have H := H.out
  dsimp only at H
  rw [hgu, hgs] at H
  clear hgu hgs
  have hh0 := h0
  have hh1 := h1
  replace h0 := eq_true h0
  replace h1 := eq_true h1
  by_cases ball : (inB gu 1 (wrap64 (a0_0 - 1)) && inB gs (wrap64 (a0_2 + 1)) (wrap64 (a0_1 - 1))) = false
  · rw [if_pos ball] at H
    cases H
    clear hr4 hh0 hh1 hlen hT
    have bs : inB gu 1 (wrap64 (a0_0 - 1)) = false ∨ inB gu 1 (wrap64 (a0_0 - 1)) = true ∧ inB gs (wrap64 (a0_2 + 1)) (wrap64 (a0_1 - 1)) = false := by
      revert ball
      cases inB gu 1 (wrap64 (a0_0 - 1)) <;> cases inB gs (wrap64 (a0_2 + 1)) (wrap64 (a0_1 - 1)) <;> simp
    clear ball
    rcases bs with b1 | ⟨b1, b2⟩
    all_goals
      go_enter Tryd.func37, Tryd.ntmps37
      go_wp2_with (first | (go_at_call 35; refine (within_any _ _ _ _).mono ?_; rintro e w' ⟨rfl, rfl⟩))
      go_ret
      exact ⟨rfl, (by repeat (first | exact Below.refl _ _ | apply below_alloc | apply pw_below_drewN))⟩
  rw [if_neg ball] at H
  have bs : inB gu 1 (wrap64 (a0_0 - 1)) = true ∧ inB gs (wrap64 (a0_2 + 1)) (wrap64 (a0_1 - 1)) = true := by
    revert ball
    cases inB gu 1 (wrap64 (a0_0 - 1)) <;> cases inB gs (wrap64 (a0_2 + 1)) (wrap64 (a0_1 - 1)) <;> simp
  clear ball
  obtain ⟨b1, b2⟩ := bs
  have h0' := hh0
  have h1' : a1 ≤ l0_4.length := by omega
  have hp : placeFrom l0_3 gu 0 = placeFrom l0_3 gu 0 := rfl
  obtain ⟨bb, hbb⟩ : ∃ bb, (l0_4.take a1.toNat).any (fun x => x.f0 == gu) = bb := ⟨_, rfl⟩
  rw [hbb] at H
  obtain ⟨p, hp2⟩ : ∃ p, mailbox_Place.f a0_0 a0_1 a0_2 l0_3 l0_4 gu = some p := ⟨_, rfl⟩
  have hpp : placeFrom l0_3 gu 0 = p := by simpa [mailbox_Place.f] using hp2
  rw [hpp] at H
  have HP := Aside0.mk hp2
  clear hp hpp hp2
  by_cases c1 : 0 < a1
  · obtain ⟨ji, hji⟩ : ∃ j, a1 - 1 = j := ⟨_, rfl⟩
    have w1 : IntKind.i64.wrap (a1 - 1) = ji := (i64_w _).trans (by unfold wrap64; omega)
    have i1 : 0 ≤ ji := by omega
    have i2 : ji < l0_4.length := by omega
    rw [hji] at H
    clear hji
    obtain ⟨ad', e', -, p1⟩ := at_T75 hr4 ji i1 i2
    cases e'
    have p1' := cell2 p1
    generalize (rd_T75 l0_4 ji).f1 = pv at *
    replace i1 := eq_true i1
    replace i2 := eq_true i2
    by_cases c2 : gs ≤ pv
    · rw [if_pos ⟨c1, c2⟩] at H
      cases H
      replace c1 := eq_true c1
      replace c2 := eq_true c2
      clear hh0 hh1 hr4 hlen hT h0' h1'
      go_enter Tryd.func37, Tryd.ntmps37
      go_wp2_with (first | (go_at_call 35; refine (within_any _ _ _ _).mono ?_; rintro e w' ⟨rfl, rfl⟩))
      go_quiet (fail)
      go_wp2_with (first | (go_at_call 35; refine (within_any _ _ _ _).mono ?_; rintro e w' ⟨rfl, rfl⟩))
      go_ret
      exact ⟨rfl, (by repeat (first | exact Below.refl _ _ | apply below_alloc | apply pw_below_drewN))⟩
    rw [if_neg (fun h => c2 h.2)] at H
    replace c1 := eq_true c1
    replace c2 := eq_false c2
    clear hh0 hh1
    by_cases cp : 0 ≤ p
    · rw [if_pos (.inl cp)] at H
      cases H
      replace cp := eq_true cp
      clear hr4 hlen hT
      go_enter Tryd.func37, Tryd.ntmps37
      go_wp2_with (first | (go_at_call 35; refine (within_any _ _ _ _).mono ?_; rintro e w' ⟨rfl, rfl⟩) | (go_at_call 26; (with_reducible refine (mailbox_Place.calls a0_0 a0_1 a0_2 _ _ l0_3 _ _ l0_4 gu p _ ?s1 hc0_3 ?s2 hc0_4 HP.out).mono ?_); (case s1 => exact Kd.C_below HR3.out (by repeat (first | exact Below.refl _ _ | apply below_alloc | apply pw_below_drewN))); (case s2 => exact Kd.C_below HR4.out (by repeat (first | exact Below.refl _ _ | apply below_alloc | apply pw_below_drewN))); rintro e w2 ⟨rfl, hb⟩; have hb0 := below_step (w := w) (by repeat (first | exact Below.refl _ _ | apply below_alloc | apply pw_below_drewN)) hb; have hz := hb.size; have kx := bc0 (blk_call (blk_drewN (blk_later (blk_at _) _) _) hb); have ky := bc0 (blk_call (blk_drewN (blk_at1 _ _) _) hb)))
      go_quiet (fail)
      go_wp2_with (first | (go_at_call 35; refine (within_any _ _ _ _).mono ?_; rintro e w' ⟨rfl, rfl⟩) | (go_at_call 26; (with_reducible refine (mailbox_Place.calls a0_0 a0_1 a0_2 _ _ l0_3 _ _ l0_4 gu p _ ?s1 hc0_3 ?s2 hc0_4 HP.out).mono ?_); (case s1 => exact Kd.C_below HR3.out (by repeat (first | exact Below.refl _ _ | apply below_alloc | apply pw_below_drewN))); (case s2 => exact Kd.C_below HR4.out (by repeat (first | exact Below.refl _ _ | apply below_alloc | apply pw_below_drewN))); rintro e w2 ⟨rfl, hb⟩; have hb0 := below_step (w := w) (by repeat (first | exact Below.refl _ _ | apply below_alloc | apply pw_below_drewN)) hb; have hz := hb.size; have kx := bc0 (blk_call (blk_drewN (blk_later (blk_at _) _) _) hb); have ky := bc0 (blk_call (blk_drewN (blk_at1 _ _) _) hb)))
      go_ret
      exact ⟨rfl, hb0⟩
    · have HT := Aside0.mk hT
      have HL := Aside0.mk hlen
      have ja := eq_true h0'
      have jb : (a1 ≤ l0_4.length) = True := eq_true h1'
      clear hT hlen hr4
      cases cb : bb
      · rw [if_neg (fun h => h.elim cp (fun h => by rw [cb] at h; cases h))] at H
        cases H
        subst cb
        have HBB := Aside0.mk hbb
        clear hbb
        replace cp := eq_false cp
        go_enter Tryd.func37, Tryd.ntmps37
        go_wp2_with (first | (go_at_call 35; refine (within_any _ _ _ _).mono ?_; rintro e w' ⟨rfl, rfl⟩) | (go_at_call 26; (with_reducible refine (mailbox_Place.calls a0_0 a0_1 a0_2 _ _ l0_3 _ _ l0_4 gu p _ ?s1 hc0_3 ?s2 hc0_4 HP.out).mono ?_); (case s1 => exact Kd.C_below HR3.out (by repeat (first | exact Below.refl _ _ | apply below_alloc | apply pw_below_drewN))); (case s2 => exact Kd.C_below HR4.out (by repeat (first | exact Below.refl _ _ | apply below_alloc | apply pw_below_drewN))); rintro e w2 ⟨rfl, hb⟩; have hb0 := below_step (w := w) (by repeat (first | exact Below.refl _ _ | apply below_alloc | apply pw_below_drewN)) hb; have hz := hb.size; have kx := bc0 (blk_call (blk_drewN (blk_later (blk_at _) _) _) hb); have ky := bc0 (blk_call (blk_drewN (blk_at1 _ _) _) hb)) | (go_at_call 54; (with_reducible refine (hasGone_any _ _ _ (l0_4.take a1.toNat) HL.out gu _ _ ?s3 ?s4).mono ?_); (case s3 => exact Kd.C_below HT.out hb0); (case s4 => exact (ky 0).trans rfl); rw [HBB.out]; rintro e w3 ⟨rfl, hb3⟩))
        go_quiet (fail)
        go_wp2_with (first | (go_at_call 35; refine (within_any _ _ _ _).mono ?_; rintro e w' ⟨rfl, rfl⟩) | (go_at_call 26; (with_reducible refine (mailbox_Place.calls a0_0 a0_1 a0_2 _ _ l0_3 _ _ l0_4 gu p _ ?s1 hc0_3 ?s2 hc0_4 HP.out).mono ?_); (case s1 => exact Kd.C_below HR3.out (by repeat (first | exact Below.refl _ _ | apply below_alloc | apply pw_below_drewN))); (case s2 => exact Kd.C_below HR4.out (by repeat (first | exact Below.refl _ _ | apply below_alloc | apply pw_below_drewN))); rintro e w2 ⟨rfl, hb⟩; have hb0 := below_step (w := w) (by repeat (first | exact Below.refl _ _ | apply below_alloc | apply pw_below_drewN)) hb; have hz := hb.size; have kx := bc0 (blk_call (blk_drewN (blk_later (blk_at _) _) _) hb); have ky := bc0 (blk_call (blk_drewN (blk_at1 _ _) _) hb)) | (go_at_call 54; (with_reducible refine (hasGone_any _ _ _ (l0_4.take a1.toNat) HL.out gu _ _ ?s3 ?s4).mono ?_); (case s3 => exact Kd.C_below HT.out hb0); (case s4 => exact (ky 0).trans rfl); rw [HBB.out]; rintro e w3 ⟨rfl, hb3⟩))
        go_ret
        exact ⟨rfl, below_step hb0 hb3⟩
      · rw [if_pos (.inr cb)] at H
        cases H
        subst cb
        have HBB := Aside0.mk hbb
        clear hbb
        replace cp := eq_false cp
        go_enter Tryd.func37, Tryd.ntmps37
        go_wp2_with (first | (go_at_call 35; refine (within_any _ _ _ _).mono ?_; rintro e w' ⟨rfl, rfl⟩) | (go_at_call 26; (with_reducible refine (mailbox_Place.calls a0_0 a0_1 a0_2 _ _ l0_3 _ _ l0_4 gu p _ ?s1 hc0_3 ?s2 hc0_4 HP.out).mono ?_); (case s1 => exact Kd.C_below HR3.out (by repeat (first | exact Below.refl _ _ | apply below_alloc | apply pw_below_drewN))); (case s2 => exact Kd.C_below HR4.out (by repeat (first | exact Below.refl _ _ | apply below_alloc | apply pw_below_drewN))); rintro e w2 ⟨rfl, hb⟩; have hb0 := below_step (w := w) (by repeat (first | exact Below.refl _ _ | apply below_alloc | apply pw_below_drewN)) hb; have hz := hb.size; have kx := bc0 (blk_call (blk_drewN (blk_later (blk_at _) _) _) hb); have ky := bc0 (blk_call (blk_drewN (blk_at1 _ _) _) hb)) | (go_at_call 54; (with_reducible refine (hasGone_any _ _ _ (l0_4.take a1.toNat) HL.out gu _ _ ?s3 ?s4).mono ?_); (case s3 => exact Kd.C_below HT.out hb0); (case s4 => exact (ky 0).trans rfl); rw [HBB.out]; rintro e w3 ⟨rfl, hb3⟩))
        go_quiet (fail)
        go_wp2_with (first | (go_at_call 35; refine (within_any _ _ _ _).mono ?_; rintro e w' ⟨rfl, rfl⟩) | (go_at_call 26; (with_reducible refine (mailbox_Place.calls a0_0 a0_1 a0_2 _ _ l0_3 _ _ l0_4 gu p _ ?s1 hc0_3 ?s2 hc0_4 HP.out).mono ?_); (case s1 => exact Kd.C_below HR3.out (by repeat (first | exact Below.refl _ _ | apply below_alloc | apply pw_below_drewN))); (case s2 => exact Kd.C_below HR4.out (by repeat (first | exact Below.refl _ _ | apply below_alloc | apply pw_below_drewN))); rintro e w2 ⟨rfl, hb⟩; have hb0 := below_step (w := w) (by repeat (first | exact Below.refl _ _ | apply below_alloc | apply pw_below_drewN)) hb; have hz := hb.size; have kx := bc0 (blk_call (blk_drewN (blk_later (blk_at _) _) _) hb); have ky := bc0 (blk_call (blk_drewN (blk_at1 _ _) _) hb)) | (go_at_call 54; (with_reducible refine (hasGone_any _ _ _ (l0_4.take a1.toNat) HL.out gu _ _ ?s3 ?s4).mono ?_); (case s3 => exact Kd.C_below HT.out hb0); (case s4 => exact (ky 0).trans rfl); rw [HBB.out]; rintro e w3 ⟨rfl, hb3⟩))
        go_ret
        exact ⟨rfl, below_step hb0 hb3⟩
  · rw [if_neg (fun h => c1 h.1)] at H
    have c1' : decide (0 < a1) = false := decide_eq_false c1
    replace hlen : (l0_4.take a1.toNat).length = 0 := by omega
    clear hh0 hh1
    by_cases cp : 0 ≤ p
    · rw [if_pos (.inl cp)] at H
      cases H
      replace cp := eq_true cp
      clear hr4 hlen hT
      go_enter Tryd.func37, Tryd.ntmps37
      go_wp2_with (first | (go_at_call 35; refine (within_any _ _ _ _).mono ?_; rintro e w' ⟨rfl, rfl⟩) | (go_at_call 26; (with_reducible refine (mailbox_Place.calls a0_0 a0_1 a0_2 _ _ l0_3 _ _ l0_4 gu p _ ?s1 hc0_3 ?s2 hc0_4 HP.out).mono ?_); (case s1 => exact Kd.C_below HR3.out (by repeat (first | exact Below.refl _ _ | apply below_alloc | apply pw_below_drewN))); (case s2 => exact Kd.C_below HR4.out (by repeat (first | exact Below.refl _ _ | apply below_alloc | apply pw_below_drewN))); rintro e w2 ⟨rfl, hb⟩; have hb0 := below_step (w := w) (by repeat (first | exact Below.refl _ _ | apply below_alloc | apply pw_below_drewN)) hb; have hz := hb.size; have kx := bc0 (blk_call (blk_drewN (blk_later (blk_at _) _) _) hb); have ky := bc0 (blk_call (blk_drewN (blk_at1 _ _) _) hb)))
      go_quiet (fail)
      go_wp2_with (first | (go_at_call 35; refine (within_any _ _ _ _).mono ?_; rintro e w' ⟨rfl, rfl⟩) | (go_at_call 26; (with_reducible refine (mailbox_Place.calls a0_0 a0_1 a0_2 _ _ l0_3 _ _ l0_4 gu p _ ?s1 hc0_3 ?s2 hc0_4 HP.out).mono ?_); (case s1 => exact Kd.C_below HR3.out (by repeat (first | exact Below.refl _ _ | apply below_alloc | apply pw_below_drewN))); (case s2 => exact Kd.C_below HR4.out (by repeat (first | exact Below.refl _ _ | apply below_alloc | apply pw_below_drewN))); rintro e w2 ⟨rfl, hb⟩; have hb0 := below_step (w := w) (by repeat (first | exact Below.refl _ _ | apply below_alloc | apply pw_below_drewN)) hb; have hz := hb.size; have kx := bc0 (blk_call (blk_drewN (blk_later (blk_at _) _) _) hb); have ky := bc0 (blk_call (blk_drewN (blk_at1 _ _) _) hb)))
      go_ret
      exact ⟨rfl, hb0⟩
    · have HT := Aside0.mk hT
      have HL := Aside0.mk hlen
      have ja := eq_true h0'
      have jb : (a1 ≤ l0_4.length) = True := eq_true h1'
      clear hT hlen hr4
      cases cb : bb
      · rw [if_neg (fun h => h.elim cp (fun h => by rw [cb] at h; cases h))] at H
        cases H
        subst cb
        have HBB := Aside0.mk hbb
        clear hbb
        replace cp := eq_false cp
        go_enter Tryd.func37, Tryd.ntmps37
        go_wp2_with (first | (go_at_call 35; refine (within_any _ _ _ _).mono ?_; rintro e w' ⟨rfl, rfl⟩) | (go_at_call 26; (with_reducible refine (mailbox_Place.calls a0_0 a0_1 a0_2 _ _ l0_3 _ _ l0_4 gu p _ ?s1 hc0_3 ?s2 hc0_4 HP.out).mono ?_); (case s1 => exact Kd.C_below HR3.out (by repeat (first | exact Below.refl _ _ | apply below_alloc | apply pw_below_drewN))); (case s2 => exact Kd.C_below HR4.out (by repeat (first | exact Below.refl _ _ | apply below_alloc | apply pw_below_drewN))); rintro e w2 ⟨rfl, hb⟩; have hb0 := below_step (w := w) (by repeat (first | exact Below.refl _ _ | apply below_alloc | apply pw_below_drewN)) hb; have hz := hb.size; have kx := bc0 (blk_call (blk_drewN (blk_later (blk_at _) _) _) hb); have ky := bc0 (blk_call (blk_drewN (blk_at1 _ _) _) hb)) | (go_at_call 54; (with_reducible refine (hasGone_any _ _ _ (l0_4.take a1.toNat) HL.out gu _ _ ?s3 ?s4).mono ?_); (case s3 => exact Kd.C_below HT.out hb0); (case s4 => exact (ky 0).trans rfl); rw [HBB.out]; rintro e w3 ⟨rfl, hb3⟩))
        go_quiet (fail)
        go_wp2_with (first | (go_at_call 35; refine (within_any _ _ _ _).mono ?_; rintro e w' ⟨rfl, rfl⟩) | (go_at_call 26; (with_reducible refine (mailbox_Place.calls a0_0 a0_1 a0_2 _ _ l0_3 _ _ l0_4 gu p _ ?s1 hc0_3 ?s2 hc0_4 HP.out).mono ?_); (case s1 => exact Kd.C_below HR3.out (by repeat (first | exact Below.refl _ _ | apply below_alloc | apply pw_below_drewN))); (case s2 => exact Kd.C_below HR4.out (by repeat (first | exact Below.refl _ _ | apply below_alloc | apply pw_below_drewN))); rintro e w2 ⟨rfl, hb⟩; have hb0 := below_step (w := w) (by repeat (first | exact Below.refl _ _ | apply below_alloc | apply pw_below_drewN)) hb; have hz := hb.size; have kx := bc0 (blk_call (blk_drewN (blk_later (blk_at _) _) _) hb); have ky := bc0 (blk_call (blk_drewN (blk_at1 _ _) _) hb)) | (go_at_call 54; (with_reducible refine (hasGone_any _ _ _ (l0_4.take a1.toNat) HL.out gu _ _ ?s3 ?s4).mono ?_); (case s3 => exact Kd.C_below HT.out hb0); (case s4 => exact (ky 0).trans rfl); rw [HBB.out]; rintro e w3 ⟨rfl, hb3⟩))
        go_ret
        exact ⟨rfl, below_step hb0 hb3⟩
      · rw [if_pos (.inr cb)] at H
        cases H
        subst cb
        have HBB := Aside0.mk hbb
        clear hbb
        replace cp := eq_false cp
        go_enter Tryd.func37, Tryd.ntmps37
        go_wp2_with (first | (go_at_call 35; refine (within_any _ _ _ _).mono ?_; rintro e w' ⟨rfl, rfl⟩) | (go_at_call 26; (with_reducible refine (mailbox_Place.calls a0_0 a0_1 a0_2 _ _ l0_3 _ _ l0_4 gu p _ ?s1 hc0_3 ?s2 hc0_4 HP.out).mono ?_); (case s1 => exact Kd.C_below HR3.out (by repeat (first | exact Below.refl _ _ | apply below_alloc | apply pw_below_drewN))); (case s2 => exact Kd.C_below HR4.out (by repeat (first | exact Below.refl _ _ | apply below_alloc | apply pw_below_drewN))); rintro e w2 ⟨rfl, hb⟩; have hb0 := below_step (w := w) (by repeat (first | exact Below.refl _ _ | apply below_alloc | apply pw_below_drewN)) hb; have hz := hb.size; have kx := bc0 (blk_call (blk_drewN (blk_later (blk_at _) _) _) hb); have ky := bc0 (blk_call (blk_drewN (blk_at1 _ _) _) hb)) | (go_at_call 54; (with_reducible refine (hasGone_any _ _ _ (l0_4.take a1.toNat) HL.out gu _ _ ?s3 ?s4).mono ?_); (case s3 => exact Kd.C_below HT.out hb0); (case s4 => exact (ky 0).trans rfl); rw [HBB.out]; rintro e w3 ⟨rfl, hb3⟩))
        go_quiet (fail)
        go_wp2_with (first | (go_at_call 35; refine (within_any _ _ _ _).mono ?_; rintro e w' ⟨rfl, rfl⟩) | (go_at_call 26; (with_reducible refine (mailbox_Place.calls a0_0 a0_1 a0_2 _ _ l0_3 _ _ l0_4 gu p _ ?s1 hc0_3 ?s2 hc0_4 HP.out).mono ?_); (case s1 => exact Kd.C_below HR3.out (by repeat (first | exact Below.refl _ _ | apply below_alloc | apply pw_below_drewN))); (case s2 => exact Kd.C_below HR4.out (by repeat (first | exact Below.refl _ _ | apply below_alloc | apply pw_below_drewN))); rintro e w2 ⟨rfl, hb⟩; have hb0 := below_step (w := w) (by repeat (first | exact Below.refl _ _ | apply below_alloc | apply pw_below_drewN)) hb; have hz := hb.size; have kx := bc0 (blk_call (blk_drewN (blk_later (blk_at _) _) _) hb); have ky := bc0 (blk_call (blk_drewN (blk_at1 _ _) _) hb)) | (go_at_call 54; (with_reducible refine (hasGone_any _ _ _ (l0_4.take a1.toNat) HL.out gu _ _ ?s3 ?s4).mono ?_); (case s3 => exact Kd.C_below HT.out hb0); (case s4 => exact (ky 0).trans rfl); rw [HBB.out]; rintro e w3 ⟨rfl, hb3⟩))
        go_ret
        exact ⟨rfl, below_step hb0 hb3⟩


end Go.Proofs.YtbnmddippoiabaaDoor.P
end
