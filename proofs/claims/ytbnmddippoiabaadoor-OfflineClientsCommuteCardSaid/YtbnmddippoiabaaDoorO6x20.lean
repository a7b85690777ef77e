/- Functions of this seat as Lean functions, and that the Go code comes to their answers: written by a program of this session's. -/
import Derived.Test.YtbnmddippoiabaaDoorO6x10
import Derived.Test.YtbnmddippoiabaaDoorO6x18
import Derived.Test.YtbnmddippoiabaaDoorO6x19
namespace Go.Proofs.YtbnmddippoiabaaDoor.P
open Go.RowKit Go.Proofs.YtbnmddippoiabaaDoorW.PrintWords Go.Proofs.YtbnmddippoiabaaDoorW.PrintLast Go.Proofs.YtbnmddippoiabaaDoorW.PrintMore
attribute [local go_sem] max2_int min2_int max_two min_two max_three min_three max_four min_four   -- for this text's walks alone
set_option linter.unusedVariables false
set_option linter.unusedSimpArgs false

/-! ### mailbox_Validate: function 19 -/
/-- The first code that is not 0, and where. -/
def firstBad (g : Int → Option Int) : Nat → Int → Option (Option (Int × Int))
  | 0, _ => some none
  | n + 1, i => (g i).bind fun c => if c = 0 then firstBad g n (i + 1) else some (some (c, i))
theorem firstBad_mono {g g' : Int → Option Int} (h : ∀ i, LeO (g i) (g' i)) : ∀ n i, LeO (firstBad g n i) (firstBad g' n i)
  | 0, _ => LeO.refl _
  | n + 1, i => LeO.bind (h i) (fun _ => LeO.ite (firstBad_mono h n (i + 1)) (LeO.refl _))
def mailbox_Validate.f (k : Nat) (a0_0 : Int) (a0_1 : Int) (a0_2 : Int) (l0_3 : List (S55)) (l0_4 : List (S75)) : Option (Int × Int) :=
  if 200 < l0_3.length then some (2, -1)
  else if 400 < l0_4.length then some (2, -2)
  else if (inB a0_0 1 1000000 && (inB a0_1 1 1000000 && inB a0_2 0 (wrap64 (a0_1 - 1)))) = false then some (3, -3)
  else (firstBad (fun i => mailbox_stored.f k a0_0 a0_1 a0_2 l0_3 l0_4 i) l0_3.length 0).bind fun b =>
    if b.isSome = true then some (b.getD (0, 0))
    else (firstBad (fun i => mailbox_gone.f a0_0 a0_1 a0_2 l0_3 l0_4 i) l0_4.length 0).bind fun b =>
      if b.isSome = true then some ((b.getD (0, 0)).1, 1000 + (b.getD (0, 0)).2) else some (0, 0)
theorem mailbox_Validate.mono : ∀ a0 a1 a2 a3 a4 k, LeO (mailbox_Validate.f k a0 a1 a2 a3 a4) (mailbox_Validate.f (k + 1) a0 a1 a2 a3 a4) := by
  intro a0 a1 a2 a3 a4 k
  unfold mailbox_Validate.f
  repeat' first | exact LeO.refl _ | exact LeO.none _ | exact firstBad_mono (fun i => mailbox_stored.mono _ _ _ _ _ _ _) _ _ | refine LeO.ite ?_ ?_ | refine LeO.bind ?_ (fun _ => ?_)
set_option maxHeartbeats 2000000 in
set_option maxRecDepth 100000 in
theorem mailbox_Validate.calls (k : Nat) (a0_0 : Int) (a0_1 : Int) (a0_2 : Int) (A0_3 : Option Addr) (c0_3 : Nat) (l0_3 : List (S55)) (A0_4 : Option Addr) (c0_4 : Nat) (l0_4 : List (S75)) (r1 : Int) (r2 : Int) (w : World) (hr0_3 : Kd.C k55 w A0_3 l0_3.length l0_3) (hc0_3 : l0_3.length ≤ c0_3) (hr0_4 : Kd.C k75 w A0_4 l0_4.length l0_4) (hc0_4 : l0_4.length ≤ c0_4) (h : mailbox_Validate.f k a0_0 a0_1 a0_2 l0_3 l0_4 = some (r1, r2)) :
    Calls Tryd.prog 19 #[.agg #[.int .i64 a0_0, .int .i64 a0_1, .int .i64 a0_2, .slice A0_3 l0_3.length c0_3, .slice A0_4 l0_4.length c0_4]] w fun e w' => e = .returned (.agg #[.int .i64 r1, .int .i64 r2]) ∧ Below w.heap.size w w' := by
  have hu := Tryd.underlying29
  unfold mailbox_Validate.f at h
  have n3 := hr0_3.2.1
  have n4 := hr0_4.2.1
  have HR3 := Aside0.mk hr0_3
  have HR4 := Aside0.mk hr0_4
  clear hr0_3 hr0_4
  by_cases c1 : 200 < l0_3.length
  · rw [if_pos c1] at h
    cases h
    go_enter Tryd.func19, Tryd.ntmps19
    go_wp2_with (first | (go_at_call 34; refine (mailbox_fault_any _ _ _).mono ?_; rintro e w' ⟨rfl, rfl⟩))
    exact bodyPost_ret (v := .agg #[.int .i64 2, .int .i64 (-1)]) (by simp [results, Tryd.results19, go_sem]) rfl ⟨rfl, by repeat (first | exact Below.refl _ _ | apply below_alloc)⟩
  rw [if_neg c1] at h
  by_cases c2 : 400 < l0_4.length
  · rw [if_pos c2] at h
    cases h
    go_enter Tryd.func19, Tryd.ntmps19
    go_wp2_with (first | (go_at_call 34; refine (mailbox_fault_any _ _ _).mono ?_; rintro e w' ⟨rfl, rfl⟩))
    exact bodyPost_ret (v := .agg #[.int .i64 2, .int .i64 (-2)]) (by simp [results, Tryd.results19, go_sem]) rfl ⟨rfl, by repeat (first | exact Below.refl _ _ | apply below_alloc)⟩
  rw [if_neg c2] at h
  by_cases c3 : (inB a0_0 1 1000000 && (inB a0_1 1 1000000 && inB a0_2 0 (wrap64 (a0_1 - 1)))) = false
  · rw [if_pos c3] at h
    cases h
    have bs : inB a0_0 1 1000000 = false ∨ inB a0_0 1 1000000 = true ∧ inB a0_1 1 1000000 = false ∨ inB a0_0 1 1000000 = true ∧ inB a0_1 1 1000000 = true ∧ inB a0_2 0 (wrap64 (a0_1 - 1)) = false := by
      revert c3
      cases inB a0_0 1 1000000 <;> cases inB a0_1 1 1000000 <;> cases inB a0_2 0 (wrap64 (a0_1 - 1)) <;> simp
    clear c3
    rcases bs with b1 | ⟨b1, b2⟩ | ⟨b1, b2, b3⟩
    all_goals
      go_enter Tryd.func19, Tryd.ntmps19
      go_wp2_with (first | (go_at_call 34; refine (mailbox_fault_any _ _ _).mono ?_; rintro e w' ⟨rfl, rfl⟩) | (go_at_call 35; refine (within_any _ _ _ _).mono ?_; rintro e w' ⟨rfl, rfl⟩))
      exact bodyPost_ret (v := .agg #[.int .i64 3, .int .i64 (-3)]) (by simp [results, Tryd.results19, go_sem]) rfl ⟨rfl, by repeat (first | exact Below.refl _ _ | apply below_alloc)⟩
  rw [if_neg c3] at h
  have c3' : inB a0_0 1 1000000 = true ∧ inB a0_1 1 1000000 = true ∧ inB a0_2 0 (wrap64 (a0_1 - 1)) = true := by
    revert c3
    cases inB a0_0 1 1000000 <;> cases inB a0_1 1 1000000 <;> cases inB a0_2 0 (wrap64 (a0_1 - 1)) <;> simp
  clear c3
  obtain ⟨b1, b2, b3⟩ := c3'
  obtain ⟨b, hb1, h⟩ := Option.bind_eq_some_iff.1 h
  have H1 := Aside0.mk hb1
  have H2 := Aside0.mk h
  clear h hb1
  go_enter Tryd.func19, Tryd.ntmps19
  go_wp2_with (first | (go_at_call 35; refine (within_any _ _ _ _).mono ?_; rintro e w' ⟨rfl, rfl⟩))
  go_loopg [43] l0_3.length (fun gg v43 W => ∃ i : Nat, i ≤ l0_3.length ∧ l0_3.length - i ≤ gg ∧ v43 = .int .i64 i ∧ Aside0 (firstBad (fun i => mailbox_stored.f k a0_0 a0_1 a0_2 l0_3 l0_4 i) (l0_3.length - i) i = some b) ∧ Aside0 (Below w.heap.size w W) ∧ Aside0 (W.heap[w.heap.size]? = some (.cells #[.int .i64 a0_0, .int .i64 a0_1, .int .i64 a0_2, .slice A0_3 l0_3.length c0_3, .slice A0_4 l0_4.length c0_4] 25 (0, 0))) ∧ Aside0 (W.heap[w.heap.size + 1]? = some (.cells #[.int .i64 0, .int .i64 0] 29 (0, 0))))
  case atStart => exact ⟨0, Nat.zero_le _, Nat.le_refl _, rfl, H1, ⟨below_alloc (below_alloc (Below.refl _ _) _) _⟩, ⟨blk_later (blk_at _) _⟩, ⟨blk_at1 _ _⟩⟩
  case round =>
    obtain ⟨i, hi, hg, rfl, HA, HB, HX, HR⟩ := hrel
    by_cases hlt : i < l0_3.length
    · skip
      obtain ⟨m, hm⟩ : ∃ m, l0_3.length - i = m + 1 := ⟨l0_3.length - i - 1, by omega⟩
      have HA1 := HA.out
      clear HA
      rw [hm] at HA1
      simp only [firstBad] at HA1
      obtain ⟨c, hc, HA1⟩ := Option.bind_eq_some_iff.1 HA1
      have kx := bc0 HX.out
      by_cases c0 : c = 0
      · subst c0
        rw [if_pos rfl] at HA1
        have HA2 := Aside0.mk HA1
        have HC := Aside0.mk hc
        clear HA1 hc
        have hm2 := Aside0.mk hm
        clear hm
        go_wp2_with (first | (go_at_call 36; (with_reducible refine (mailbox_stored.calls k a0_0 a0_1 a0_2 _ _ l0_3 _ _ l0_4 i _ _ ?s1 hc0_3 ?s2 hc0_4 HC.out).mono ?_); (case s1 => exact Kd.C_below HR3.out HB.out); (case s2 => exact Kd.C_below HR4.out HB.out); rintro e w2 ⟨rfl, hb⟩))
        go_roundg (l0_3.length - (i + 1))
        case measure => omega
        case rel => exact ⟨i + 1, by omega, by omega, by go_num, ⟨by have h1 := HA2.out; rw [show m = l0_3.length - (i + 1) from by have := hm2.out; omega] at h1; exact h1⟩, ⟨below_step HB.out hb⟩, ⟨blk_call HX.out hb⟩, ⟨blk_call HR.out hb⟩⟩
      · rw [if_neg c0] at HA1
        cases HA1
        have h2 := H2.out
        simp only [Option.isSome_some, if_true, Option.getD_some, Option.some.injEq, Prod.mk.injEq] at h2
        obtain ⟨rfl, rfl⟩ := h2
        have c0b : (c == 0) = false := beq_eq_false_iff_ne.2 c0
        have c0c : (c != 0) = true := bne_iff_ne.2 c0
        clear c0 hm
        have HC := Aside0.mk hc
        clear hc
        go_wp2_with (first | (go_at_call 36; (with_reducible refine (mailbox_stored.calls k a0_0 a0_1 a0_2 _ _ l0_3 _ _ l0_4 i _ _ ?s1 hc0_3 ?s2 hc0_4 HC.out).mono ?_); (case s1 => exact Kd.C_below HR3.out HB.out); (case s2 => exact Kd.C_below HR4.out HB.out); rintro e w2 ⟨rfl, hb⟩; have hr := blk_call HR.out hb; have kr := bc0 hr; have kf := bf0 hr; have kr1 := bc1 hr; have kf1 := bf1 hr; have hz := blk_lt hr; clear hr) | (go_at_call 34; refine (mailbox_fault_any _ _ _).mono ?_; rintro e w' ⟨rfl, rfl⟩))
        refine bodyPost_ret (v := .agg #[.int .i64 c, .int .i64 ((i : Int))]) (by simp [results, Tryd.results19, go_sem, kr, kr1, hz]) rfl ⟨rfl, ?_⟩
        exact below_alloc (below_set (below_set (below_step HB.out hb) (Nat.le_succ _)) (Nat.le_succ _)) _
    · obtain rfl : i = l0_3.length := by omega
      have HA1 := HA.out
      rw [Nat.sub_self] at HA1
      cases HA1
      clear HA hlt hg hi
      have h2 := H2.out
      simp only [Option.isSome_none, Bool.false_eq_true, if_false] at h2
      obtain ⟨b', hb2, h2⟩ := Option.bind_eq_some_iff.1 h2
      clear H2
      have H3 := Aside0.mk hb2
      have H4 := Aside0.mk h2
      clear h2 hb2
      have kx := bc0 HX.out
      obtain ⟨W0, hW0⟩ : ∃ W0 : World, W0 = wr := ⟨_, rfl⟩
      subst hW0
      go_wp2
      clear kx
      go_loopg [58] l0_4.length (fun gg v58 W => ∃ i : Nat, i ≤ l0_4.length ∧ l0_4.length - i ≤ gg ∧ v58 = .int .i64 i ∧ Aside0 (firstBad (fun i => mailbox_gone.f a0_0 a0_1 a0_2 l0_3 l0_4 i) (l0_4.length - i) i = some b') ∧ Aside0 (Below w.heap.size w W) ∧ Aside0 (W.heap[w.heap.size]? = some (.cells #[.int .i64 a0_0, .int .i64 a0_1, .int .i64 a0_2, .slice A0_3 l0_3.length c0_3, .slice A0_4 l0_4.length c0_4] 25 (0, 0))) ∧ Aside0 (W.heap[w.heap.size + 1]? = some (.cells #[.int .i64 0, .int .i64 0] 29 (0, 0))))
      case atStart => exact ⟨0, Nat.zero_le _, Nat.le_refl _, rfl, H3, HB, HX, HR⟩
      case round =>
      clear HB HX HR
      obtain ⟨i, hi, hg, rfl, HA, HB, HX, HR⟩ := hrel
      by_cases hlt : i < l0_4.length
      · skip
        obtain ⟨m, hm⟩ : ∃ m, l0_4.length - i = m + 1 := ⟨l0_4.length - i - 1, by omega⟩
        have HA1 := HA.out
        clear HA
        rw [hm] at HA1
        simp only [firstBad] at HA1
        obtain ⟨c, hc, HA1⟩ := Option.bind_eq_some_iff.1 HA1
        have kx := bc0 HX.out
        by_cases c0 : c = 0
        · subst c0
          rw [if_pos rfl] at HA1
          have HA2 := Aside0.mk HA1
          have HC := Aside0.mk hc
          clear HA1 hc
          have hm2 := Aside0.mk hm
          clear hm
          go_wp2_with (first | (go_at_call 37; (with_reducible refine (mailbox_gone.calls a0_0 a0_1 a0_2 _ _ l0_3 _ _ l0_4 i _ _ ?s1 hc0_3 ?s2 hc0_4 HC.out).mono ?_); (case s1 => exact Kd.C_below HR3.out HB.out); (case s2 => exact Kd.C_below HR4.out HB.out); rintro e w2 ⟨rfl, hb⟩))
          go_roundg (l0_4.length - (i + 1))
          case measure => omega
          case rel => exact ⟨i + 1, by omega, by omega, by go_num, ⟨by have h1 := HA2.out; rw [show m = l0_4.length - (i + 1) from by have := hm2.out; omega] at h1; exact h1⟩, ⟨below_step HB.out hb⟩, ⟨blk_call HX.out hb⟩, ⟨blk_call HR.out hb⟩⟩
        · rw [if_neg c0] at HA1
          cases HA1
          have h2 := H4.out
          simp only [Option.isSome_some, if_true, Option.getD_some, Option.some.injEq, Prod.mk.injEq] at h2
          obtain ⟨rfl, rfl⟩ := h2
          have c0b : (c == 0) = false := beq_eq_false_iff_ne.2 c0
          have c0c : (c != 0) = true := bne_iff_ne.2 c0
          clear c0 hm
          have HC := Aside0.mk hc
          clear hc
          go_wp2_with (first | (go_at_call 37; (with_reducible refine (mailbox_gone.calls a0_0 a0_1 a0_2 _ _ l0_3 _ _ l0_4 i _ _ ?s1 hc0_3 ?s2 hc0_4 HC.out).mono ?_); (case s1 => exact Kd.C_below HR3.out HB.out); (case s2 => exact Kd.C_below HR4.out HB.out); rintro e w2 ⟨rfl, hb⟩; have hr := blk_call HR.out hb; have kr := bc0 hr; have kf := bf0 hr; have kr1 := bc1 hr; have kf1 := bf1 hr; have hz := blk_lt hr; clear hr) | (go_at_call 34; refine (mailbox_fault_any _ _ _).mono ?_; rintro e w' ⟨rfl, rfl⟩))
          refine bodyPost_ret (v := .agg #[.int .i64 c, .int .i64 (1000 + (i : Int))]) (by simp [results, Tryd.results19, go_sem, kr, kr1, hz]) rfl ⟨rfl, ?_⟩
          exact below_alloc (below_set (below_set (below_step HB.out hb) (Nat.le_succ _)) (Nat.le_succ _)) _
      · obtain rfl : i = l0_4.length := by omega
        have HA1 := HA.out
        rw [Nat.sub_self] at HA1
        cases HA1
        clear HA hlt hg hi
        have h2 := H4.out
        simp only [Option.isSome_none, Bool.false_eq_true, if_false, Option.some.injEq, Prod.mk.injEq] at h2
        obtain ⟨rfl, rfl⟩ := h2
        have kx := bc0 HX.out
        have hr := HR.out
        have kr := bc0 hr
        have kf := bf0 hr
        have hz := blk_lt hr
        clear hr
        go_wp2
        refine bodyPost_ret (v := .agg #[.int .i64 0, .int .i64 0]) (by simp [results, Tryd.results19, go_sem, kr, hz]) rfl ⟨rfl, ?_⟩
        exact below_set (below_set HB.out (Nat.le_succ _)) (Nat.le_succ _)


end Go.Proofs.YtbnmddippoiabaaDoor.P
