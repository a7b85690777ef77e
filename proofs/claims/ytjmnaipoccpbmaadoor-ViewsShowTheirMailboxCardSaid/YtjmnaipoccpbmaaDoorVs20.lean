/- Several texts in one, each in its own section. The last: Functions of this seat as Lean functions, and that the Go code comes to their answers: written by a program of this session's. -/
import Derived.Test.YtjmnaipoccpbmaaDoorVs10
import Derived.Test.YtjmnaipoccpbmaaDoorVs18
import Derived.Test.YtjmnaipoccpbmaaDoorVs19
import Derived.Test.YtjmnaipoccpbmaaDoorVs17
/- Functions of this seat as Lean functions, and that the Go code comes to their answers: written by a program of this session's. -/
section
namespace Go.Proofs.YtjmnaipoccpbmaaDoor.P
open Go.RowKit Go.Proofs.YtjmnaipoccpbmaaDoorW.PrintWords Go.Proofs.YtjmnaipoccpbmaaDoorW.PrintLast Go.Proofs.YtjmnaipoccpbmaaDoorW.PrintMore
attribute [local go_sem] max2_int min2_int max_two min_two max_three min_three max_four min_four   -- for this text's walks alone
set_option linter.unusedVariables false
set_option linter.unusedSimpArgs false

/-! ### mailbox_Validate: function 19 -/
/-- The first code that is not 0, and where. -/
def firstBad (g : Int → Option Int) : Nat → Int → Option (Option (Int × Int))
  | 0, _ => some none
  | n + 1, i => (g i).bind fun c => if c = 0 then firstBad g n (i + 1) else some (some (c, i))
theorem firstBad_mono {g g' : Int → Option Int} (h : ∀ i, LeO (g i) (g' i)) : ∀ n i, LeO (firstBad g n i) (firstBad g' n i)
  | 0, _ => LeO.refl _
  | n + 1, i => LeO.bind (h i) (fun _ => LeO.ite (firstBad_mono h n (i + 1)) (LeO.refl _))
def mailbox_Validate.f (k : Nat) (a0_0 : Int) (a0_1 : Int) (a0_2 : Int) (l0_3 : List (S78)) (l0_4 : List (S73)) : Option (Int × Int) :=
  if 200 < l0_3.length then some (2, -1)
  else if 400 < l0_4.length then some (2, -2)
  else if (inB a0_0 1 1000000 && (inB a0_1 1 1000000 && inB a0_2 0 (wrap64 (a0_1 - 1)))) = false then some (3, -3)
  else (firstBad (fun i => mailbox_stored.f k a0_0 a0_1 a0_2 l0_3 l0_4 i) l0_3.length 0).bind fun b =>
    if b.isSome = true then some (b.getD (0, 0))
    else (firstBad (fun i => mailbox_gone.f a0_0 a0_1 a0_2 l0_3 l0_4 i) l0_4.length 0).bind fun b =>
      if b.isSome = true then some ((b.getD (0, 0)).1, 1000 + (b.getD (0, 0)).2) else some (0, 0)
theorem mailbox_Validate.mono : ∀ a0 a1 a2 a3 a4 k, LeO (mailbox_Validate.f k a0 a1 a2 a3 a4) (mailbox_Validate.f (k + 1) a0 a1 a2 a3 a4) := by
  intro a0 a1 a2 a3 a4 k
  unfold mailbox_Validate.f
  repeat' first | exact LeO.refl _ | exact LeO.none _ | exact firstBad_mono (fun i => mailbox_stored.mono _ _ _ _ _ _ _) _ _ | refine LeO.ite ?_ ?_ | refine LeO.bind ?_ (fun _ => ?_)
set_option maxHeartbeats 2000000 in
set_option maxRecDepth 100000 in
theorem mailbox_Validate.calls (k : Nat) (a0_0 : Int) (a0_1 : Int) (a0_2 : Int) (A0_3 : Option Addr) (c0_3 : Nat) (l0_3 : List (S78)) (A0_4 : Option Addr) (c0_4 : Nat) (l0_4 : List (S73)) (r1 : Int) (r2 : Int) (w : World) (hr0_3 : Kd.C k78 w A0_3 l0_3.length l0_3) (hc0_3 : l0_3.length ≤ c0_3) (hr0_4 : Kd.C k73 w A0_4 l0_4.length l0_4) (hc0_4 : l0_4.length ≤ c0_4) (h : mailbox_Validate.f k a0_0 a0_1 a0_2 l0_3 l0_4 = some (r1, r2)) :
    Calls Tryd.prog 19 #[.agg #[.int .i64 a0_0, .int .i64 a0_1, .int .i64 a0_2, .slice A0_3 l0_3.length c0_3, .slice A0_4 l0_4.length c0_4]] w fun e w' => e = .returned (.agg #[.int .i64 r1, .int .i64 r2]) ∧ Below w.heap.size w w' := by
  have hu := Tryd.underlying35
  unfold mailbox_Validate.f at h
  have n3 := hr0_3.2.1
  have n4 := hr0_4.2.1
  have HR3 := Aside0.mk hr0_3
  have HR4 := Aside0.mk hr0_4
  clear hr0_3 hr0_4
  by_cases c1 : 200 < l0_3.length
  · rw [if_pos c1] at h
    cases h
    go_enter Tryd.func19, Tryd.ntmps19
    go_wp2_with (first | (go_at_call 32; refine (mailbox_fault_any _ _ _).mono ?_; rintro e w' ⟨rfl, rfl⟩))
    exact bodyPost_ret (v := .agg #[.int .i64 2, .int .i64 (-1)]) (by simp [results, Tryd.results19, go_sem]) rfl ⟨rfl, by repeat (first | exact Below.refl _ _ | apply below_alloc)⟩
  rw [if_neg c1] at h
  by_cases c2 : 400 < l0_4.length
  · rw [if_pos c2] at h
    cases h
    go_enter Tryd.func19, Tryd.ntmps19
    go_wp2_with (first | (go_at_call 32; refine (mailbox_fault_any _ _ _).mono ?_; rintro e w' ⟨rfl, rfl⟩))
    exact bodyPost_ret (v := .agg #[.int .i64 2, .int .i64 (-2)]) (by simp [results, Tryd.results19, go_sem]) rfl ⟨rfl, by repeat (first | exact Below.refl _ _ | apply below_alloc)⟩
  rw [if_neg c2] at h
  by_cases c3 : (inB a0_0 1 1000000 && (inB a0_1 1 1000000 && inB a0_2 0 (wrap64 (a0_1 - 1)))) = false
  · rw [if_pos c3] at h
    cases h
    have bs : inB a0_0 1 1000000 = false ∨ inB a0_0 1 1000000 = true ∧ inB a0_1 1 1000000 = false ∨ inB a0_0 1 1000000 = true ∧ inB a0_1 1 1000000 = true ∧ inB a0_2 0 (wrap64 (a0_1 - 1)) = false := by
      revert c3
      cases inB a0_0 1 1000000 <;> cases inB a0_1 1 1000000 <;> cases inB a0_2 0 (wrap64 (a0_1 - 1)) <;> simp
    clear c3
    rcases bs with b1 | ⟨b1, b2⟩ | ⟨b1, b2, b3⟩
    all_goals
      go_enter Tryd.func19, Tryd.ntmps19
      go_wp2_with (first | (go_at_call 32; refine (mailbox_fault_any _ _ _).mono ?_; rintro e w' ⟨rfl, rfl⟩) | (go_at_call 33; refine (within_any _ _ _ _).mono ?_; rintro e w' ⟨rfl, rfl⟩))
      exact bodyPost_ret (v := .agg #[.int .i64 3, .int .i64 (-3)]) (by simp [results, Tryd.results19, go_sem]) rfl ⟨rfl, by repeat (first | exact Below.refl _ _ | apply below_alloc)⟩
  rw [if_neg c3] at h
  have c3' : inB a0_0 1 1000000 = true ∧ inB a0_1 1 1000000 = true ∧ inB a0_2 0 (wrap64 (a0_1 - 1)) = true := by
    revert c3
    cases inB a0_0 1 1000000 <;> cases inB a0_1 1 1000000 <;> cases inB a0_2 0 (wrap64 (a0_1 - 1)) <;> simp
  clear c3
  obtain ⟨b1, b2, b3⟩ := c3'
  obtain ⟨b, hb1, h⟩ := Option.bind_eq_some_iff.1 h
  have H1 := Aside0.mk hb1
  have H2 := Aside0.mk h
  clear h hb1
  go_enter Tryd.func19, Tryd.ntmps19
  go_wp2_with (first | (go_at_call 33; refine (within_any _ _ _ _).mono ?_; rintro e w' ⟨rfl, rfl⟩))
  go_loopg [43] l0_3.length (fun gg v43 W => ∃ i : Nat, i ≤ l0_3.length ∧ l0_3.length - i ≤ gg ∧ v43 = .int .i64 i ∧ Aside0 (firstBad (fun i => mailbox_stored.f k a0_0 a0_1 a0_2 l0_3 l0_4 i) (l0_3.length - i) i = some b) ∧ Aside0 (Below w.heap.size w W) ∧ Aside0 (W.heap[w.heap.size]? = some (.cells #[.int .i64 a0_0, .int .i64 a0_1, .int .i64 a0_2, .slice A0_3 l0_3.length c0_3, .slice A0_4 l0_4.length c0_4] 25 (0, 0))) ∧ Aside0 (W.heap[w.heap.size + 1]? = some (.cells #[.int .i64 0, .int .i64 0] 35 (0, 0))))
  case atStart => exact ⟨0, Nat.zero_le _, Nat.le_refl _, rfl, H1, ⟨below_alloc (below_alloc (Below.refl _ _) _) _⟩, ⟨blk_later (blk_at _) _⟩, ⟨blk_at1 _ _⟩⟩
  case round =>
    obtain ⟨i, hi, hg, rfl, HA, HB, HX, HR⟩ := hrel
    by_cases hlt : i < l0_3.length
    · skip
      obtain ⟨m, hm⟩ : ∃ m, l0_3.length - i = m + 1 := ⟨l0_3.length - i - 1, by omega⟩
      have HA1 := HA.out
      clear HA
      rw [hm] at HA1
      simp only [firstBad] at HA1
      obtain ⟨c, hc, HA1⟩ := Option.bind_eq_some_iff.1 HA1
      have kx := bc0 HX.out
      by_cases c0 : c = 0
      · subst c0
        rw [if_pos rfl] at HA1
        have HA2 := Aside0.mk HA1
        have HC := Aside0.mk hc
        clear HA1 hc
        have hm2 := Aside0.mk hm
        clear hm
        go_wp2_with (first | (go_at_call 34; (with_reducible refine (mailbox_stored.calls k a0_0 a0_1 a0_2 _ _ l0_3 _ _ l0_4 i _ _ ?s1 hc0_3 ?s2 hc0_4 HC.out).mono ?_); (case s1 => exact Kd.C_below HR3.out HB.out); (case s2 => exact Kd.C_below HR4.out HB.out); rintro e w2 ⟨rfl, hb⟩))
        go_roundg (l0_3.length - (i + 1))
        case measure => omega
        case rel => exact ⟨i + 1, by omega, by omega, by go_num, ⟨by have h1 := HA2.out; rw [show m = l0_3.length - (i + 1) from by have := hm2.out; omega] at h1; exact h1⟩, ⟨below_step HB.out hb⟩, ⟨blk_call HX.out hb⟩, ⟨blk_call HR.out hb⟩⟩
      · rw [if_neg c0] at HA1
        cases HA1
        have h2 := H2.out
        simp only [Option.isSome_some, if_true, Option.getD_some, Option.some.injEq, Prod.mk.injEq] at h2
        obtain ⟨rfl, rfl⟩ := h2
        have c0b : (c == 0) = false := beq_eq_false_iff_ne.2 c0
        have c0c : (c != 0) = true := bne_iff_ne.2 c0
        clear c0 hm
        have HC := Aside0.mk hc
        clear hc
        go_wp2_with (first | (go_at_call 34; (with_reducible refine (mailbox_stored.calls k a0_0 a0_1 a0_2 _ _ l0_3 _ _ l0_4 i _ _ ?s1 hc0_3 ?s2 hc0_4 HC.out).mono ?_); (case s1 => exact Kd.C_below HR3.out HB.out); (case s2 => exact Kd.C_below HR4.out HB.out); rintro e w2 ⟨rfl, hb⟩; have hr := blk_call HR.out hb; have kr := bc0 hr; have kf := bf0 hr; have kr1 := bc1 hr; have kf1 := bf1 hr; have hz := blk_lt hr; clear hr) | (go_at_call 32; refine (mailbox_fault_any _ _ _).mono ?_; rintro e w' ⟨rfl, rfl⟩))
        refine bodyPost_ret (v := .agg #[.int .i64 c, .int .i64 ((i : Int))]) (by simp [results, Tryd.results19, go_sem, kr, kr1, hz]) rfl ⟨rfl, ?_⟩
        exact below_alloc (below_set (below_set (below_step HB.out hb) (Nat.le_succ _)) (Nat.le_succ _)) _
    · obtain rfl : i = l0_3.length := by omega
      have HA1 := HA.out
      rw [Nat.sub_self] at HA1
      cases HA1
      clear HA hlt hg hi
      have h2 := H2.out
      simp only [Option.isSome_none, Bool.false_eq_true, if_false] at h2
      obtain ⟨b', hb2, h2⟩ := Option.bind_eq_some_iff.1 h2
      clear H2
      have H3 := Aside0.mk hb2
      have H4 := Aside0.mk h2
      clear h2 hb2
      have kx := bc0 HX.out
      obtain ⟨W0, hW0⟩ : ∃ W0 : World, W0 = wr := ⟨_, rfl⟩
      subst hW0
      go_wp2
      clear kx
      go_loopg [58] l0_4.length (fun gg v58 W => ∃ i : Nat, i ≤ l0_4.length ∧ l0_4.length - i ≤ gg ∧ v58 = .int .i64 i ∧ Aside0 (firstBad (fun i => mailbox_gone.f a0_0 a0_1 a0_2 l0_3 l0_4 i) (l0_4.length - i) i = some b') ∧ Aside0 (Below w.heap.size w W) ∧ Aside0 (W.heap[w.heap.size]? = some (.cells #[.int .i64 a0_0, .int .i64 a0_1, .int .i64 a0_2, .slice A0_3 l0_3.length c0_3, .slice A0_4 l0_4.length c0_4] 25 (0, 0))) ∧ Aside0 (W.heap[w.heap.size + 1]? = some (.cells #[.int .i64 0, .int .i64 0] 35 (0, 0))))
      case atStart => exact ⟨0, Nat.zero_le _, Nat.le_refl _, rfl, H3, HB, HX, HR⟩
      case round =>
      clear HB HX HR
      obtain ⟨i, hi, hg, rfl, HA, HB, HX, HR⟩ := hrel
      by_cases hlt : i < l0_4.length
      · skip
        obtain ⟨m, hm⟩ : ∃ m, l0_4.length - i = m + 1 := ⟨l0_4.length - i - 1, by omega⟩
        have HA1 := HA.out
        clear HA
        rw [hm] at HA1
        simp only [firstBad] at HA1
        obtain ⟨c, hc, HA1⟩ := Option.bind_eq_some_iff.1 HA1
        have kx := bc0 HX.out
        by_cases c0 : c = 0
        · subst c0
          rw [if_pos rfl] at HA1
          have HA2 := Aside0.mk HA1
          have HC := Aside0.mk hc
          clear HA1 hc
          have hm2 := Aside0.mk hm
          clear hm
          go_wp2_with (first | (go_at_call 35; (with_reducible refine (mailbox_gone.calls a0_0 a0_1 a0_2 _ _ l0_3 _ _ l0_4 i _ _ ?s1 hc0_3 ?s2 hc0_4 HC.out).mono ?_); (case s1 => exact Kd.C_below HR3.out HB.out); (case s2 => exact Kd.C_below HR4.out HB.out); rintro e w2 ⟨rfl, hb⟩))
          go_roundg (l0_4.length - (i + 1))
          case measure => omega
          case rel => exact ⟨i + 1, by omega, by omega, by go_num, ⟨by have h1 := HA2.out; rw [show m = l0_4.length - (i + 1) from by have := hm2.out; omega] at h1; exact h1⟩, ⟨below_step HB.out hb⟩, ⟨blk_call HX.out hb⟩, ⟨blk_call HR.out hb⟩⟩
        · rw [if_neg c0] at HA1
          cases HA1
          have h2 := H4.out
          simp only [Option.isSome_some, if_true, Option.getD_some, Option.some.injEq, Prod.mk.injEq] at h2
          obtain ⟨rfl, rfl⟩ := h2
          have c0b : (c == 0) = false := beq_eq_false_iff_ne.2 c0
          have c0c : (c != 0) = true := bne_iff_ne.2 c0
          clear c0 hm
          have HC := Aside0.mk hc
          clear hc
          go_wp2_with (first | (go_at_call 35; (with_reducible refine (mailbox_gone.calls a0_0 a0_1 a0_2 _ _ l0_3 _ _ l0_4 i _ _ ?s1 hc0_3 ?s2 hc0_4 HC.out).mono ?_); (case s1 => exact Kd.C_below HR3.out HB.out); (case s2 => exact Kd.C_below HR4.out HB.out); rintro e w2 ⟨rfl, hb⟩; have hr := blk_call HR.out hb; have kr := bc0 hr; have kf := bf0 hr; have kr1 := bc1 hr; have kf1 := bf1 hr; have hz := blk_lt hr; clear hr) | (go_at_call 32; refine (mailbox_fault_any _ _ _).mono ?_; rintro e w' ⟨rfl, rfl⟩))
          refine bodyPost_ret (v := .agg #[.int .i64 c, .int .i64 (1000 + (i : Int))]) (by simp [results, Tryd.results19, go_sem, kr, kr1, hz]) rfl ⟨rfl, ?_⟩
          exact below_alloc (below_set (below_set (below_step HB.out hb) (Nat.le_succ _)) (Nat.le_succ _)) _
      · obtain rfl : i = l0_4.length := by omega
        have HA1 := HA.out
        rw [Nat.sub_self] at HA1
        cases HA1
        clear HA hlt hg hi
        have h2 := H4.out
        simp only [Option.isSome_none, Bool.false_eq_true, if_false, Option.some.injEq, Prod.mk.injEq] at h2
        obtain ⟨rfl, rfl⟩ := h2
        have kx := bc0 HX.out
        have hr := HR.out
        have kr := bc0 hr
        have kf := bf0 hr
        have hz := blk_lt hr
        clear hr
        go_wp2
        refine bodyPost_ret (v := .agg #[.int .i64 0, .int .i64 0]) (by simp [results, Tryd.results19, go_sem, kr, hz]) rfl ⟨rfl, ?_⟩
        exact below_set (below_set HB.out (Nat.le_succ _)) (Nat.le_succ _)


end Go.Proofs.YtjmnaipoccpbmaaDoor.P
end
/- Functions of this seat as Lean functions, and that the Go code comes to their answers: written by a program of this session's. -/
section
namespace Go.Proofs.YtjmnaipoccpbmaaDoor.P
open Go.RowKit Go.Proofs.YtjmnaipoccpbmaaDoorW.PrintWords Go.Proofs.YtjmnaipoccpbmaaDoorW.PrintLast Go.Proofs.YtjmnaipoccpbmaaDoorW.PrintMore
attribute [local go_sem] max2_int min2_int max_two min_two max_three min_three max_four min_four   -- for this text's walks alone
set_option linter.unusedVariables false
set_option linter.unusedSimpArgs false

/-! ### mailbox_empty: function 36 -/
def mailbox_empty.f (l0_0 : List (S99)) (l0_1 : List Int) : Option (Bool) := some ((wrap64 ((l0_0.length : Int) + (l0_1.length : Int))) == 0)
set_option maxHeartbeats 8000000 in
set_option maxRecDepth 100000 in
theorem mailbox_empty.calls (A0_0 : Option Addr) (c0_0 : Nat) (l0_0 : List (S99)) (A0_1 : Option Addr) (c0_1 : Nat) (l0_1 : List Int) (r : Bool) (w : World) (hr0_0 : Kd.C k99 w A0_0 l0_0.length l0_0) (hc0_0 : l0_0.length ≤ c0_0) (hr0_1 : Kd.C (Kd.int .u8) w A0_1 l0_1.length l0_1) (hc0_1 : l0_1.length ≤ c0_1) (h : mailbox_empty.f l0_0 l0_1 = some r) :
    Calls Tryd.prog 36 #[.agg #[.slice A0_0 l0_0.length c0_0, .slice A0_1 l0_1.length c0_1]] w fun e w' => e = .returned (.bool r) ∧ Below w.heap.size w w' := by
  have hu29 := Tryd.underlying29
  have HR0_0 := Aside0.mk hr0_0
  have HC0_0 := Aside0.mk hc0_0
  clear hr0_0 hc0_0
  have HR0_1 := Aside0.mk hr0_1
  have HC0_1 := Aside0.mk hc0_1
  clear hr0_1 hc0_1
  have HB := Aside0.mk (Below.refl w.heap.size w)
  have H : (some ((wrap64 ((l0_0.length : Int) + (l0_1.length : Int))) == 0)) = some r := h
  clear h
  obtain rfl := Option.some.inj H
  go_enter Tryd.func36, Tryd.ntmps36
  go_wp2_with (first | ((with_reducible refine gate_dst (N := 1) rfl ?_); refine box_event ?hg (N := 1) ?hd (cs := #[.slice A0_0 l0_0.length c0_0, .slice A0_1 l0_1.length c0_1]) (t := 29) ?hr ?_; (case hd => rfl); (case hg => rfl); (case hr => first | (go_simp; done) | (go_simp; rfl)); intro gb153 hg w2 hbox hb; have n0_ := Aside0.mk (below_step (by repeat (first | (with_reducible first | exact HB.out | apply below_alloc | apply pw_below_drewN | apply below_drew1) | exact HB.out)) hb); have n1_ := Aside0.mk (hbox); have n2_ := Aside0.mk ((by rw [hg]; exact (below_size (by repeat (first | (with_reducible first | exact HB.out | apply below_alloc | apply pw_below_drewN | apply below_drew1) | exact HB.out))) : w.heap.size ≤ gb153)); have n3_ := Aside0.mk ((by rw [hg]; exact (below_size (by repeat (first | (with_reducible first | exact HB.out | apply below_alloc | apply pw_below_drewN | apply below_drew1) | exact HB.out))) : w.heap.size ≤ gb153)); clear HB; have HB := n0_; have BK153 := n1_; have GW153 := n2_; have GE153 := n3_; clear n0_ n1_ n2_ n3_; clear hb hbox hg; have hcz3_0 : w2.cell? ⟨gb153, 0, none⟩ = some (.slice A0_0 l0_0.length c0_0) := (blk_cell BK153.out 0).trans rfl; have hcz3_1 : w2.cell? ⟨gb153, 1, none⟩ = some (.slice A0_1 l0_1.length c0_1) := (blk_cell BK153.out 1).trans rfl; have hfz3_0 := blk_frozen BK153.out 0; have hfz3_1 := blk_frozen BK153.out 1))
  go_ret
  exact ⟨by first | rfl | (simp [errW_none, errW_some] <;> rfl) | (simp [*, errW_none, errW_some] <;> rfl), by repeat (first | (with_reducible first | exact HB.out | apply below_alloc | apply pw_below_drewN | apply below_drew1 | refine below_set ?_ GE153.out) | exact HB.out)⟩

end Go.Proofs.YtjmnaipoccpbmaaDoor.P
end
/- Functions of this seat as Lean functions, and that the Go code comes to their answers: written by a program of this session's. -/
section
namespace Go.Proofs.YtjmnaipoccpbmaaDoor.P
open Go.RowKit Go.Proofs.YtjmnaipoccpbmaaDoorW.PrintWords Go.Proofs.YtjmnaipoccpbmaaDoorW.PrintLast Go.Proofs.YtjmnaipoccpbmaaDoorW.PrintMore
attribute [local go_sem] max2_int min2_int max_two min_two max_three min_three max_four min_four   -- for this text's walks alone
set_option linter.unusedVariables false
set_option linter.unusedSimpArgs false

/-! ### mailbox_change: function 22 -/
def mailbox_change.f (k : Nat) (a0_0 : Int) (a0_1 : Int) (a0_2 : Int) (a0_3 : Int) (a0_4 : Int) (l0_5 : List (S99)) (l0_6 : List Int) : Option (Int × Int) :=
  if inB a0_0 1 3 = false then some (4, -5)
  else if a0_0 = 1 ∧ (a0_1 ≠ 0 ∨ a0_3 ≠ 0) then some (5, -5)
  else if a0_0 ≠ 1 ∧ (a0_4 ≠ 0 ∨ ((wrap64 ((l0_5.length : Int) + (l0_6.length : Int))) == 0) = false) then some (5, -5)
  else if a0_0 = 3 ∧ (a0_2 ≠ 0 ∨ a0_3 ≠ 0) then some (5, -5)
  else if (inB a0_2 0 63 && (inB a0_3 0 63 && inB a0_4 (-68719476736) 68719476736)) = false then some (3, -5)
  else if a0_0 = 1 then (message_Validate.f k l0_5 l0_6).bind fun t => if t.1 = 0 ∧ t.2 = 0 then some (0, 0) else some (t.1, -6)
  else some (0, 0)
theorem mailbox_change.mono : ∀ a0 a1 a2 a3 a4 a5 a6 k, LeO (mailbox_change.f k a0 a1 a2 a3 a4 a5 a6) (mailbox_change.f (k + 1) a0 a1 a2 a3 a4 a5 a6) := by
  intro a0 a1 a2 a3 a4 a5 a6 k
  unfold mailbox_change.f
  repeat' first | exact LeO.refl _ | exact LeO.none _ | exact message_Validate.mono _ _ _ | refine LeO.ite ?_ ?_ | refine LeO.bind ?_ (fun _ => ?_)
attribute [local go_sem high] eqFault
set_option maxHeartbeats 4000000 in
set_option maxRecDepth 100000 in
theorem mailbox_change.calls (k : Nat) (a0_0 : Int) (a0_1 : Int) (a0_2 : Int) (a0_3 : Int) (a0_4 : Int) (A0_5 : Option Addr) (c0_5 : Nat) (l0_5 : List (S99)) (A0_6 : Option Addr) (c0_6 : Nat) (l0_6 : List Int) (r1 : Int) (r2 : Int) (w : World) (hr0_5 : Kd.C k99 w A0_5 l0_5.length l0_5) (hc0_5 : l0_5.length ≤ c0_5) (hr0_6 : Kd.C (Kd.int .u8) w A0_6 l0_6.length l0_6) (hc0_6 : l0_6.length ≤ c0_6) (h : mailbox_change.f k a0_0 a0_1 a0_2 a0_3 a0_4 l0_5 l0_6 = some (r1, r2)) :
    Calls Tryd.prog 22 #[.agg #[.int .i64 a0_0, .int .i64 a0_1, .int .i64 a0_2, .int .i64 a0_3, .int .i64 a0_4, .slice A0_5 l0_5.length c0_5, .slice A0_6 l0_6.length c0_6]] w fun e w' => e = .returned (.agg #[.int .i64 r1, .int .i64 r2]) ∧ Below w.heap.size w w' := by
  have hu := Tryd.underlying35
  unfold mailbox_change.f at h
  have HR5 := Aside0.mk hr0_5
  have HR6 := Aside0.mk hr0_6
  have HE : Aside0 (mailbox_empty.f l0_5 l0_6 = some ((wrap64 ((l0_5.length : Int) + (l0_6.length : Int))) == 0)) := ⟨rfl⟩
  clear hr0_5 hr0_6
  generalize ((wrap64 ((l0_5.length : Int) + (l0_6.length : Int))) == 0) = em at *
  cases cA : inB a0_0 1 3
  · rw [if_pos cA] at h
    cases h
    go_enter Tryd.func22, Tryd.ntmps22
    go_wp2_with (first | (go_at_call 32; refine (mailbox_fault_any _ _ _).mono ?_; rintro e w' ⟨rfl, rfl⟩) | (go_at_call 33; refine (within_any _ _ _ _).mono ?_; rintro e w' ⟨rfl, rfl⟩))
    exact bodyPost_ret (v := .agg #[.int .i64 4, .int .i64 (-5)]) (by simp [results, Tryd.results22, go_sem]) rfl ⟨rfl, by repeat (first | exact Below.refl _ _ | apply below_alloc)⟩
  rw [if_neg (by simp [cA])] at h
  by_cases c1 : a0_0 = 1
  · have d1 : (a0_0 == 1) = true := beq_iff_eq.2 c1
    have d1' : (a0_0 != 1) = false := bne_eq_false_iff_eq.2 c1
    have d3 : (a0_0 == 3) = false := beq_eq_false_iff_ne.2 (by omega)
    by_cases c2 : a0_1 = 0 ∧ a0_3 = 0
    · obtain ⟨c2, c3⟩ := c2
      rw [if_neg (fun h => h.2.elim (fun h => h c2) (fun h => h c3)), if_neg (fun h => h.1 c1), if_neg (fun h => by omega)] at h
      have d2 : (a0_1 != 0) = false := bne_eq_false_iff_eq.2 c2
      have d4 : (a0_3 != 0) = false := bne_eq_false_iff_eq.2 c3
      have i3 : inB a0_3 0 63 = true := by rw [c3]; rfl
      cases i2 : inB a0_2 0 63
      · rw [if_pos (by simp [i2])] at h
        cases h
        clear c1 c2 c3
        go_enter Tryd.func22, Tryd.ntmps22
        go_wp2_with (first | (go_at_call 32; refine (mailbox_fault_any _ _ _).mono ?_; rintro e w' ⟨rfl, rfl⟩) | (go_at_call 33; refine (within_any _ _ _ _).mono ?_; rintro e w' ⟨rfl, rfl⟩))
        exact bodyPost_ret (v := .agg #[.int .i64 3, .int .i64 (-5)]) (by simp [results, Tryd.results22, go_sem]) rfl ⟨rfl, by repeat (first | exact Below.refl _ _ | apply below_alloc)⟩
      cases i4 : inB a0_4 (-68719476736) 68719476736
      · rw [if_pos (by simp [i4])] at h
        cases h
        clear c1 c2 c3
        go_enter Tryd.func22, Tryd.ntmps22
        go_wp2_with (first | (go_at_call 32; refine (mailbox_fault_any _ _ _).mono ?_; rintro e w' ⟨rfl, rfl⟩) | (go_at_call 33; refine (within_any _ _ _ _).mono ?_; rintro e w' ⟨rfl, rfl⟩))
        exact bodyPost_ret (v := .agg #[.int .i64 3, .int .i64 (-5)]) (by simp [results, Tryd.results22, go_sem]) rfl ⟨rfl, by repeat (first | exact Below.refl _ _ | apply below_alloc)⟩
      rw [if_neg (by simp [i2, i3, i4]), if_pos c1] at h
      clear c1 c2 c3
      obtain ⟨⟨t1, t2⟩, hv, h⟩ := Option.bind_eq_some_iff.1 h
      have HV := Aside0.mk hv
      clear hv
      by_cases e1 : t1 = 0
      · by_cases e2 : t2 = 0
        · rw [if_pos ⟨e1, e2⟩] at h
          cases h
          subst e1 e2
          go_enter Tryd.func22, Tryd.ntmps22
          go_wp2_with (first | (go_at_call 32; refine (mailbox_fault_any _ _ _).mono ?_; rintro e w' ⟨rfl, rfl⟩) | (go_at_call 33; refine (within_any _ _ _ _).mono ?_; rintro e w' ⟨rfl, rfl⟩) | (go_at_call 37; (with_reducible refine (message_Validate.calls k _ _ l0_5 _ _ l0_6 _ _ _ ?s1 hc0_5 ?s2 hc0_6 HV.out).mono ?_); (case s1 => exact Kd.C_below HR5.out (below_alloc (below_alloc (Below.refl _ _) _) _)); (case s2 => exact Kd.C_below HR6.out (below_alloc (below_alloc (Below.refl _ _) _) _)); rintro e w2 ⟨rfl, hbE⟩; have hb0 := below_step (below_alloc (below_alloc (Below.refl _ w) _) _) hbE; have hr := blk_call (blk_at1 _ _) hbE; have kx := bc0 (blk_call (blk_later (blk_at _) _) hbE); have kr := bc0 hr; have kf := bf0 hr; have kr1 := bc1 hr; have kf1 := bf1 hr; have kr2 := bc2 hr; have kf2 := bf2 hr; have hz := blk_lt hr; clear hr))
          exact bodyPost_ret (v := .agg #[.int .i64 0, .int .i64 0]) (by simp [results, Tryd.results22, go_sem, kr, kr1, kr2, hz]) rfl ⟨rfl, by repeat (first | exact hb0 | (with_reducible apply below_alloc) | (with_reducible refine below_set ?_ (Nat.le_succ _)))⟩
        · rw [if_neg (fun h => e2 h.2)] at h
          cases h
          subst e1
          replace e2 : (t2 == 0) = false := beq_eq_false_iff_ne.2 e2
          go_enter Tryd.func22, Tryd.ntmps22
          go_wp2_with (first | (go_at_call 32; refine (mailbox_fault_any _ _ _).mono ?_; rintro e w' ⟨rfl, rfl⟩) | (go_at_call 33; refine (within_any _ _ _ _).mono ?_; rintro e w' ⟨rfl, rfl⟩) | (go_at_call 37; (with_reducible refine (message_Validate.calls k _ _ l0_5 _ _ l0_6 _ _ _ ?s1 hc0_5 ?s2 hc0_6 HV.out).mono ?_); (case s1 => exact Kd.C_below HR5.out (below_alloc (below_alloc (Below.refl _ _) _) _)); (case s2 => exact Kd.C_below HR6.out (below_alloc (below_alloc (Below.refl _ _) _) _)); rintro e w2 ⟨rfl, hbE⟩; have hb0 := below_step (below_alloc (below_alloc (Below.refl _ w) _) _) hbE; have hr := blk_call (blk_at1 _ _) hbE; have kx := bc0 (blk_call (blk_later (blk_at _) _) hbE); have kr := bc0 hr; have kf := bf0 hr; have kr1 := bc1 hr; have kf1 := bf1 hr; have kr2 := bc2 hr; have kf2 := bf2 hr; have hz := blk_lt hr; clear hr))
          exact bodyPost_ret (v := .agg #[.int .i64 0, .int .i64 (-6)]) (by simp [results, Tryd.results22, go_sem, kr, kr1, kr2, hz]) rfl ⟨rfl, by repeat (first | exact hb0 | (with_reducible apply below_alloc) | (with_reducible refine below_set ?_ (Nat.le_succ _)))⟩
      · rw [if_neg (fun h => e1 h.1)] at h
        cases h
        replace e1 : (t1 == 0) = false := beq_eq_false_iff_ne.2 e1
        go_enter Tryd.func22, Tryd.ntmps22
        go_wp2_with (first | (go_at_call 32; refine (mailbox_fault_any _ _ _).mono ?_; rintro e w' ⟨rfl, rfl⟩) | (go_at_call 33; refine (within_any _ _ _ _).mono ?_; rintro e w' ⟨rfl, rfl⟩) | (go_at_call 37; (with_reducible refine (message_Validate.calls k _ _ l0_5 _ _ l0_6 _ _ _ ?s1 hc0_5 ?s2 hc0_6 HV.out).mono ?_); (case s1 => exact Kd.C_below HR5.out (below_alloc (below_alloc (Below.refl _ _) _) _)); (case s2 => exact Kd.C_below HR6.out (below_alloc (below_alloc (Below.refl _ _) _) _)); rintro e w2 ⟨rfl, hbE⟩; have hb0 := below_step (below_alloc (below_alloc (Below.refl _ w) _) _) hbE; have hr := blk_call (blk_at1 _ _) hbE; have kx := bc0 (blk_call (blk_later (blk_at _) _) hbE); have kr := bc0 hr; have kf := bf0 hr; have kr1 := bc1 hr; have kf1 := bf1 hr; have kr2 := bc2 hr; have kf2 := bf2 hr; have hz := blk_lt hr; clear hr))
        exact bodyPost_ret (v := .agg #[.int .i64 t1, .int .i64 (-6)]) (by simp [results, Tryd.results22, go_sem, kr, kr1, kr2, hz]) rfl ⟨rfl, by repeat (first | exact hb0 | (with_reducible apply below_alloc) | (with_reducible refine below_set ?_ (Nat.le_succ _)))⟩
    · rw [if_pos ⟨c1, by omega⟩] at h
      cases h
      have d2 : (a0_1 != 0) = true ∨ (a0_1 != 0) = false ∧ (a0_3 != 0) = true := by
        by_cases e : a0_1 = 0
        · exact .inr ⟨bne_eq_false_iff_eq.2 e, bne_iff_ne.2 (fun e2 => c2 ⟨e, e2⟩)⟩
        · exact .inl (bne_iff_ne.2 e)
      clear c1 c2
      rcases d2 with d2 | ⟨d2, d4⟩
      all_goals
        go_enter Tryd.func22, Tryd.ntmps22
        go_wp2_with (first | (go_at_call 32; refine (mailbox_fault_any _ _ _).mono ?_; rintro e w' ⟨rfl, rfl⟩) | (go_at_call 33; refine (within_any _ _ _ _).mono ?_; rintro e w' ⟨rfl, rfl⟩))
        exact bodyPost_ret (v := .agg #[.int .i64 5, .int .i64 (-5)]) (by simp [results, Tryd.results22, go_sem]) rfl ⟨rfl, by repeat (first | exact Below.refl _ _ | apply below_alloc)⟩
  · have d1 : (a0_0 == 1) = false := beq_eq_false_iff_ne.2 c1
    have d1' : (a0_0 != 1) = true := bne_iff_ne.2 c1
    rw [if_neg (fun h => c1 h.1)] at h
    by_cases c2 : a0_4 = 0
    · have d2 : (a0_4 != 0) = false := bne_eq_false_iff_eq.2 c2
      have i4 : inB a0_4 (-68719476736) 68719476736 = true := by rw [c2]; rfl
      cases cE : em
      · rw [if_pos ⟨c1, .inr cE⟩] at h
        cases h
        clear c1 c2
        subst cE
        go_enter Tryd.func22, Tryd.ntmps22
        go_wp2_with (first | (go_at_call 32; refine (mailbox_fault_any _ _ _).mono ?_; rintro e w' ⟨rfl, rfl⟩) | (go_at_call 33; refine (within_any _ _ _ _).mono ?_; rintro e w' ⟨rfl, rfl⟩) | (go_at_call 36; (with_reducible refine (mailbox_empty.calls _ _ l0_5 _ _ l0_6 _ _ ?s1 hc0_5 ?s2 hc0_6 HE.out).mono ?_); (case s1 => exact Kd.C_below HR5.out (below_alloc (below_alloc (Below.refl _ _) _) _)); (case s2 => exact Kd.C_below HR6.out (below_alloc (below_alloc (Below.refl _ _) _) _)); rintro e w2 ⟨rfl, hbE⟩; have hb0 := below_step (below_alloc (below_alloc (Below.refl _ w) _) _) hbE; have hr := blk_call (blk_at1 _ _) hbE; have kx := bc0 (blk_call (blk_later (blk_at _) _) hbE); have kr := bc0 hr; have kf := bf0 hr; have kr1 := bc1 hr; have kf1 := bf1 hr; have kx1 := bc1 (blk_call (blk_later (blk_at _) _) hbE); have hz := blk_lt hr; clear hr))
        exact bodyPost_ret (v := .agg #[.int .i64 5, .int .i64 (-5)]) (by simp [results, Tryd.results22, go_sem, kr, kr1, hz]) rfl ⟨rfl, by repeat (first | exact hb0 | (with_reducible apply below_alloc) | (with_reducible refine below_set ?_ (Nat.le_succ _)))⟩
      rw [if_neg (fun h => h.2.elim (fun h => h c2) (fun h => by rw [cE] at h; cases h))] at h
      subst cE
      by_cases c3 : a0_0 = 3
      · have d3 : (a0_0 == 3) = true := beq_iff_eq.2 c3
        by_cases c4 : a0_2 = 0 ∧ a0_3 = 0
        · obtain ⟨c4, c5⟩ := c4
          have d4 : (a0_2 != 0) = false := bne_eq_false_iff_eq.2 c4
          have d5 : (a0_3 != 0) = false := bne_eq_false_iff_eq.2 c5
          have i2 : inB a0_2 0 63 = true := by rw [c4]; rfl
          have i3 : inB a0_3 0 63 = true := by rw [c5]; rfl
          rw [if_neg (fun h => h.2.elim (fun h => h c4) (fun h => h c5)), if_neg (by simp [i2, i3, i4]), if_neg c1] at h
          cases h
          clear c1 c2 c3 c4 c5
          go_enter Tryd.func22, Tryd.ntmps22
          go_wp2_with (first | (go_at_call 32; refine (mailbox_fault_any _ _ _).mono ?_; rintro e w' ⟨rfl, rfl⟩) | (go_at_call 33; refine (within_any _ _ _ _).mono ?_; rintro e w' ⟨rfl, rfl⟩) | (go_at_call 36; (with_reducible refine (mailbox_empty.calls _ _ l0_5 _ _ l0_6 _ _ ?s1 hc0_5 ?s2 hc0_6 HE.out).mono ?_); (case s1 => exact Kd.C_below HR5.out (below_alloc (below_alloc (Below.refl _ _) _) _)); (case s2 => exact Kd.C_below HR6.out (below_alloc (below_alloc (Below.refl _ _) _) _)); rintro e w2 ⟨rfl, hbE⟩; have hb0 := below_step (below_alloc (below_alloc (Below.refl _ w) _) _) hbE; have hr := blk_call (blk_at1 _ _) hbE; have kx := bc0 (blk_call (blk_later (blk_at _) _) hbE); have kr := bc0 hr; have kf := bf0 hr; have kr1 := bc1 hr; have kf1 := bf1 hr; have kx1 := bc1 (blk_call (blk_later (blk_at _) _) hbE); have hz := blk_lt hr; clear hr))
          exact bodyPost_ret (v := .agg #[.int .i64 0, .int .i64 0]) (by simp [results, Tryd.results22, go_sem, kr, kr1, hz]) rfl ⟨rfl, by repeat (first | exact hb0 | (with_reducible apply below_alloc) | (with_reducible refine below_set ?_ (Nat.le_succ _)))⟩
        · rw [if_pos ⟨c3, by omega⟩] at h
          cases h
          have d4 : (a0_2 != 0) = true ∨ (a0_2 != 0) = false ∧ (a0_3 != 0) = true := by
            by_cases e : a0_2 = 0
            · exact .inr ⟨bne_eq_false_iff_eq.2 e, bne_iff_ne.2 (fun e2 => c4 ⟨e, e2⟩)⟩
            · exact .inl (bne_iff_ne.2 e)
          clear c1 c2 c3 c4
          rcases d4 with d4 | ⟨d4, d5⟩
          all_goals
            go_enter Tryd.func22, Tryd.ntmps22
            go_wp2_with (first | (go_at_call 32; refine (mailbox_fault_any _ _ _).mono ?_; rintro e w' ⟨rfl, rfl⟩) | (go_at_call 33; refine (within_any _ _ _ _).mono ?_; rintro e w' ⟨rfl, rfl⟩) | (go_at_call 36; (with_reducible refine (mailbox_empty.calls _ _ l0_5 _ _ l0_6 _ _ ?s1 hc0_5 ?s2 hc0_6 HE.out).mono ?_); (case s1 => exact Kd.C_below HR5.out (below_alloc (below_alloc (Below.refl _ _) _) _)); (case s2 => exact Kd.C_below HR6.out (below_alloc (below_alloc (Below.refl _ _) _) _)); rintro e w2 ⟨rfl, hbE⟩; have hb0 := below_step (below_alloc (below_alloc (Below.refl _ w) _) _) hbE; have hr := blk_call (blk_at1 _ _) hbE; have kx := bc0 (blk_call (blk_later (blk_at _) _) hbE); have kr := bc0 hr; have kf := bf0 hr; have kr1 := bc1 hr; have kf1 := bf1 hr; have kx1 := bc1 (blk_call (blk_later (blk_at _) _) hbE); have hz := blk_lt hr; clear hr))
            exact bodyPost_ret (v := .agg #[.int .i64 5, .int .i64 (-5)]) (by simp [results, Tryd.results22, go_sem, kr, kr1, hz]) rfl ⟨rfl, by repeat (first | exact hb0 | (with_reducible apply below_alloc) | (with_reducible refine below_set ?_ (Nat.le_succ _)))⟩
      · have d3 : (a0_0 == 3) = false := beq_eq_false_iff_ne.2 c3
        rw [if_neg (fun h => c3 h.1)] at h
        have ii : inB a0_2 0 63 = false ∨ inB a0_2 0 63 = true ∧ inB a0_3 0 63 = false ∨ inB a0_2 0 63 = true ∧ inB a0_3 0 63 = true := by
          cases inB a0_2 0 63 <;> cases inB a0_3 0 63 <;> simp
        rcases ii with i2 | ⟨i2, i3⟩ | ⟨i2, i3⟩
        · rw [if_pos (by simp [i2])] at h
          cases h
          clear c1 c2 c3
          go_enter Tryd.func22, Tryd.ntmps22
          go_wp2_with (first | (go_at_call 32; refine (mailbox_fault_any _ _ _).mono ?_; rintro e w' ⟨rfl, rfl⟩) | (go_at_call 33; refine (within_any _ _ _ _).mono ?_; rintro e w' ⟨rfl, rfl⟩) | (go_at_call 36; (with_reducible refine (mailbox_empty.calls _ _ l0_5 _ _ l0_6 _ _ ?s1 hc0_5 ?s2 hc0_6 HE.out).mono ?_); (case s1 => exact Kd.C_below HR5.out (below_alloc (below_alloc (Below.refl _ _) _) _)); (case s2 => exact Kd.C_below HR6.out (below_alloc (below_alloc (Below.refl _ _) _) _)); rintro e w2 ⟨rfl, hbE⟩; have hb0 := below_step (below_alloc (below_alloc (Below.refl _ w) _) _) hbE; have hr := blk_call (blk_at1 _ _) hbE; have kx := bc0 (blk_call (blk_later (blk_at _) _) hbE); have kr := bc0 hr; have kf := bf0 hr; have kr1 := bc1 hr; have kf1 := bf1 hr; have kx1 := bc1 (blk_call (blk_later (blk_at _) _) hbE); have hz := blk_lt hr; clear hr))
          exact bodyPost_ret (v := .agg #[.int .i64 3, .int .i64 (-5)]) (by simp [results, Tryd.results22, go_sem, kr, kr1, hz]) rfl ⟨rfl, by repeat (first | exact hb0 | (with_reducible apply below_alloc) | (with_reducible refine below_set ?_ (Nat.le_succ _)))⟩
        · rw [if_pos (by simp [i3])] at h
          cases h
          clear c1 c2 c3
          go_enter Tryd.func22, Tryd.ntmps22
          go_wp2_with (first | (go_at_call 32; refine (mailbox_fault_any _ _ _).mono ?_; rintro e w' ⟨rfl, rfl⟩) | (go_at_call 33; refine (within_any _ _ _ _).mono ?_; rintro e w' ⟨rfl, rfl⟩) | (go_at_call 36; (with_reducible refine (mailbox_empty.calls _ _ l0_5 _ _ l0_6 _ _ ?s1 hc0_5 ?s2 hc0_6 HE.out).mono ?_); (case s1 => exact Kd.C_below HR5.out (below_alloc (below_alloc (Below.refl _ _) _) _)); (case s2 => exact Kd.C_below HR6.out (below_alloc (below_alloc (Below.refl _ _) _) _)); rintro e w2 ⟨rfl, hbE⟩; have hb0 := below_step (below_alloc (below_alloc (Below.refl _ w) _) _) hbE; have hr := blk_call (blk_at1 _ _) hbE; have kx := bc0 (blk_call (blk_later (blk_at _) _) hbE); have kr := bc0 hr; have kf := bf0 hr; have kr1 := bc1 hr; have kf1 := bf1 hr; have kx1 := bc1 (blk_call (blk_later (blk_at _) _) hbE); have hz := blk_lt hr; clear hr))
          exact bodyPost_ret (v := .agg #[.int .i64 3, .int .i64 (-5)]) (by simp [results, Tryd.results22, go_sem, kr, kr1, hz]) rfl ⟨rfl, by repeat (first | exact hb0 | (with_reducible apply below_alloc) | (with_reducible refine below_set ?_ (Nat.le_succ _)))⟩
        · rw [if_neg (by simp [i2, i3, i4]), if_neg c1] at h
          cases h
          clear c1 c2 c3
          go_enter Tryd.func22, Tryd.ntmps22
          go_wp2_with (first | (go_at_call 32; refine (mailbox_fault_any _ _ _).mono ?_; rintro e w' ⟨rfl, rfl⟩) | (go_at_call 33; refine (within_any _ _ _ _).mono ?_; rintro e w' ⟨rfl, rfl⟩) | (go_at_call 36; (with_reducible refine (mailbox_empty.calls _ _ l0_5 _ _ l0_6 _ _ ?s1 hc0_5 ?s2 hc0_6 HE.out).mono ?_); (case s1 => exact Kd.C_below HR5.out (below_alloc (below_alloc (Below.refl _ _) _) _)); (case s2 => exact Kd.C_below HR6.out (below_alloc (below_alloc (Below.refl _ _) _) _)); rintro e w2 ⟨rfl, hbE⟩; have hb0 := below_step (below_alloc (below_alloc (Below.refl _ w) _) _) hbE; have hr := blk_call (blk_at1 _ _) hbE; have kx := bc0 (blk_call (blk_later (blk_at _) _) hbE); have kr := bc0 hr; have kf := bf0 hr; have kr1 := bc1 hr; have kf1 := bf1 hr; have kx1 := bc1 (blk_call (blk_later (blk_at _) _) hbE); have hz := blk_lt hr; clear hr))
          exact bodyPost_ret (v := .agg #[.int .i64 0, .int .i64 0]) (by simp [results, Tryd.results22, go_sem, kr, kr1, hz]) rfl ⟨rfl, by repeat (first | exact hb0 | (with_reducible apply below_alloc) | (with_reducible refine below_set ?_ (Nat.le_succ _)))⟩
    · rw [if_pos ⟨c1, .inl c2⟩] at h
      cases h
      have d2 : (a0_4 != 0) = true := bne_iff_ne.2 c2
      clear c1 c2
      go_enter Tryd.func22, Tryd.ntmps22
      go_wp2_with (first | (go_at_call 32; refine (mailbox_fault_any _ _ _).mono ?_; rintro e w' ⟨rfl, rfl⟩) | (go_at_call 33; refine (within_any _ _ _ _).mono ?_; rintro e w' ⟨rfl, rfl⟩))
      exact bodyPost_ret (v := .agg #[.int .i64 5, .int .i64 (-5)]) (by simp [results, Tryd.results22, go_sem]) rfl ⟨rfl, by repeat (first | exact Below.refl _ _ | apply below_alloc)⟩


end Go.Proofs.YtjmnaipoccpbmaaDoor.P
end
