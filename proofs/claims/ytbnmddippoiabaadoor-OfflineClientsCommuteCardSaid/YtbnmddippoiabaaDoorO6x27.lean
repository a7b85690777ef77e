/- Functions of this seat as Lean functions, and that the Go code comes to their answers: written by a program of this session's. -/
import Derived.Test.YtbnmddippoiabaaDoorO6x25
import Derived.Test.YtbnmddippoiabaaDoorO6x10
import Derived.Test.YtbnmddippoiabaaDoorO6x19
import Derived.Test.YtbnmddippoiabaaDoorO6x24
namespace Go.Proofs.YtbnmddippoiabaaDoor.P
open Go.RowKit Go.Proofs.YtbnmddippoiabaaDoorW.PrintWords Go.Proofs.YtbnmddippoiabaaDoorW.PrintLast Go.Proofs.YtbnmddippoiabaaDoorW.PrintMore
attribute [local go_sem] max2_int min2_int max_two min_two max_three min_three max_four min_four   -- for this text's walks alone
set_option linter.unusedVariables false
set_option linter.unusedSimpArgs false

/-! ### offline_outcome: function 25 -/
/-- The sequence number of the client's own change of a message, 0 if there is none. -/
def ownAt : List (Int × Int) → Int → Int
  | [], _ => 0
  | x :: r, u => if x.1 = u then x.2 else ownAt r u
/-- The entry that a queued change is about. -/
def entryOf (l3 : List (S55)) (q : S43) : S55 := l3.getD (placeFrom l3 q.f0 0).toNat z55
/-- What becomes of a queued change: why it is not made, or 0. -/
def outcomeOf (a1 : Int) (l3 : List (S55)) (own : List (Int × Int)) (base : Int) (q : S43) : Int :=
  if placeFrom l3 q.f0 0 < 0 then 6 else if a1 = 1000000 then 1 else if q.f3 = true ∧ base ≤ (entryOf l3 q).f1 ∧ (entryOf l3 q).f1 ≠ ownAt own q.f0 then 15 else 0
def mineOf (l3 : List (S55)) (own : List (Int × Int)) (base : Int) (q : S43) : Bool := decide ((entryOf l3 q).f1 < base) || ((entryOf l3 q).f1 == ownAt own q.f0)
def queuedKind (q : S43) : Int := if q.f3 = true then 3 else 2
def doOf (a0 a1 a2 : Int) (l3 : List (S55)) (l4 : List (S75)) (q : S43) : Int × Int × Int × List (S55) × List (S75) := mailbox_Do.m a0 a1 a2 l3 l4 (queuedKind q) q.f0 q.f1 q.f2 0 [] []
def ownNext (a0 a1 a2 : Int) (l3 : List (S55)) (l4 : List (S75)) (own : List (Int × Int)) (base : Int) (q : S43) : List (Int × Int) :=
  if mineOf l3 own base q = true ∧ q.f3 = false ∧ a1 < (doOf a0 a1 a2 l3 l4 q).2.1 then (q.f0, a1) :: own else own
open Go.Maps in
set_option maxRecDepth 100000 in
theorem keyInt : Keyed Tryd.prog 3 := int_keyed Tryd.underlying3
theorem zeroInt (w : World) : (zeroValue 3).run Tryd.prog w = .ok (.int .i64 0) w := by kernel_rfl
/-- Block B is a map that holds the client's own sequence numbers. -/
def MW (W : World) (B : Nat) (own : List (Int × Int)) : Prop := ∃ (n : Nat) (D : DataW Unit), W.ownsMap Tryd.prog 3 (plainElem Tryd.prog 3) B n D ∧ n ≤ own.length ∧ ∀ u : Int, D.atKey (.int .i64 u) (.lit (.int .i64 0)) = .lit (.int .i64 (ownAt own u))
theorem MW_lt {W : World} {B : Nat} {own : List (Int × Int)} (h : MW W B own) : B < W.heap.size := by
  obtain ⟨n, D, h, -⟩ := h
  exact h.lt
theorem MW_step {W W' : World} {B : Nat} {own : List (Int × Int)} (h : MW W B own) (hb : W'.heap[B]? = W.heap[B]?) : MW W' B own := by
  obtain ⟨n, D, ⟨es, clock, h1, h2⟩, h3⟩ := h
  exact ⟨n, D, ⟨es, clock, hb.trans h1, h2⟩, h3⟩
theorem MW_below {W W' : World} {B : Nat} {own : List (Int × Int)} (h : MW W B own) (hb : Below W.heap.size W W') : MW W' B own := MW_step h (hb.block B (MW_lt h))
theorem MW_made (W : World) : MW (W.alloc (.map #[] 0)) W.heap.size [] := ⟨0, .map [], World.ownsMap_made _ _ _ _, Nat.le_refl _, fun _ => rfl⟩
open Go.Maps in
set_option maxRecDepth 100000 in
theorem MW_look {W : World} {B : Nat} {own : List (Int × Int)} (h : MW W B own) {u : Int} (hu : (Lit.int .i64 u).wf = true) : (Instr.lookup 65 (.map (some B)) (.int .i64 u) false).run Tryd.prog W = .ok (.int .i64 (ownAt own u)) W := by
  obtain ⟨n, D, h, -, hat⟩ := h
  obtain ⟨c, hr, hc, -⟩ := h.lookup_int keyInt Tryd.underlying65 Tryd.underlying3 (zeroInt _) (keyOf_int_mk Tryd.underlying3 hu)
  rw [hat u] at hc
  injection hc with hc
  injection hc with _ hc
  rw [hr, ← hc]
open Go.Maps in
set_option maxRecDepth 100000 in
theorem MW_put {W : World} {B : Nat} {own : List (Int × Int)} (h : MW W B own) (hn : own.length < maxLen) {u s : Int} (hu : (Lit.int .i64 u).wf = true) (hs : (Lit.int .i64 s).wf = true) : ∃ W', (Instr.mapUpdate 65 (.map (some B)) (.int .i64 u) (.int .i64 s)).run Tryd.prog W = .ok () W' ∧ MW W' B ((u, s) :: own) ∧ W.grownBy W' (some B) := by
  obtain ⟨n, D, h, hle, hat⟩ := h
  have hD : IsMap D := by
    obtain ⟨es, clock, -, -, -, hD⟩ := h
    exact ⟨_, hD⟩
  obtain ⟨W', hr, ho, hg⟩ := h.update keyInt Tryd.underlying65 (by omega) (keyOf_int_mk Tryd.underlying3 hu) (plainElem_int Tryd.underlying3 hs)
  refine ⟨W', hr, ⟨n + 1, _, ho, by rw [List.length_cons]; omega, fun v => ?_⟩, hg⟩
  have hk : WideAt.IsKeyLit (.int .i64 u) := keyInt.key (keyOf_int_mk Tryd.underlying3 hu)
  unfold ownAt
  by_cases e : u = v
  · subst e
    rw [if_pos rfl, atKey_put_same hD hk]
  · rw [if_neg e, atKey_put_other (fun he => e (by injection he with _ he; exact he.symm)), hat]
theorem entry_at {l : List (S55)} {q : S43} {i : Nat} (hi : placeFrom l q.f0 0 = i) (hl : i < l.length) : l[i]? = some (entryOf l q) := by
  unfold entryOf
  rw [hi, Int.toNat_natCast]
  exact getD_some _ hl
set_option maxHeartbeats 4000000 in
set_option maxRecDepth 100000 in
theorem outcome_any (B : Nat) (own : List (Int × Int)) (base : Int) (q : S43) (a0 a1 a2 : Int) (aA : Option Addr) (aa : Nat) (a3 : List (S55)) (aB : Option Addr) (ab : Nat) (a4 : List (S75)) (w : World) (ha3 : Kd.C k55 w aA a3.length a3) (ea3 : a3.length ≤ aa) (ha4 : Kd.C k75 w aB a4.length a4) (ea4 : a4.length ≤ ab) (hm : MW w B own) (hq : (Lit.int .i64 q.f0).wf = true) :
    Calls Tryd.prog 25 #[.agg #[.int .i64 a0, .int .i64 a1, .int .i64 a2, .slice aA a3.length aa, .slice aB a4.length ab], .map (some B), .int .i64 base, .agg #[.int .i64 q.f0, .int .i64 q.f1, .int .i64 q.f2, .bool q.f3]] w fun e w' => e = .returned (.int .i64 (outcomeOf a1 a3 own base q)) ∧ Below w.heap.size w w' := by
  have HA3 := Aside0.mk ha3
  have HA4 := Aside0.mk ha4
  have HM := Aside0.mk hm
  clear ha3 ha4 hm
  have hus := Tryd.underlying25
  have huq := Tryd.underlying43
  have HB := Aside0.mk (below_alloc (below_alloc (Below.refl w.heap.size w) (.cells #[.int .i64 a0, .int .i64 a1, .int .i64 a2, .slice aA a3.length aa, .slice aB a4.length ab] 25)) (.cells #[.int .i64 q.f0, .int .i64 q.f1, .int .i64 q.f2, .bool q.f3] 43))
  have HA := Aside0.mk (blk_later (blk_at (w := w) (.cells #[.int .i64 a0, .int .i64 a1, .int .i64 a2, .slice aA a3.length aa, .slice aB a4.length ab] 25)) (.cells #[.int .i64 q.f0, .int .i64 q.f1, .int .i64 q.f2, .bool q.f3] 43))
  have HQ := Aside0.mk (blk_at1 (w := w) (.cells #[.int .i64 a0, .int .i64 a1, .int .i64 a2, .slice aA a3.length aa, .slice aB a4.length ab] 25) (.cells #[.int .i64 q.f0, .int .i64 q.f1, .int .i64 q.f2, .bool q.f3] 43))
  by_cases c1 : placeFrom a3 q.f0 0 < 0
  · skip
    have d1 : decide (placeFrom a3 q.f0 0 < 0) = true := decide_eq_true c1
    rw [show outcomeOf a1 a3 own base q = 6 from if_pos c1]
    go_enter Tryd.func25, Tryd.ntmps25
    go_wp2_with fail
    refine (mailbox_Place.calls a0 a1 a2 aA aa a3 aB ab a4 q.f0 (placeFrom a3 q.f0 0) _ (Kd.C_below HA3.out HB.out) ea3 (Kd.C_below HA4.out HB.out) ea4 rfl).mono ?_
    rintro e w1 ⟨rfl, hb⟩
    replace HA := Aside0.mk (blk_call HA.out hb)
    replace HQ := Aside0.mk (blk_call HQ.out hb)
    replace HB := Aside0.mk (below_step HB.out hb)
    clear hb
    go_wp2
    go_ret
    exact ⟨rfl, HB.out⟩
  have d1 : decide (placeFrom a3 q.f0 0 < 0) = false := decide_eq_false c1
  by_cases c2 : a1 = 1000000
  · skip
    have d2 : (a1 == 1000000) = true := beq_iff_eq.2 c2
    rw [show outcomeOf a1 a3 own base q = 1 from (if_neg c1).trans (if_pos c2)]
    clear c1 c2
    go_enter Tryd.func25, Tryd.ntmps25
    go_wp2_with fail
    refine (mailbox_Place.calls a0 a1 a2 aA aa a3 aB ab a4 q.f0 (placeFrom a3 q.f0 0) _ (Kd.C_below HA3.out HB.out) ea3 (Kd.C_below HA4.out HB.out) ea4 rfl).mono ?_
    rintro e w1 ⟨rfl, hb⟩
    replace HA := Aside0.mk (blk_call HA.out hb)
    replace HQ := Aside0.mk (blk_call HQ.out hb)
    replace HB := Aside0.mk (below_step HB.out hb)
    clear hb
    have kHA := bc0 HA.out
    have mHA := bc1 HA.out
    have nHA := bc2 HA.out
    have fHA := bf0 HA.out
    have yHA := blk_lt HA.out
    go_wp2
    go_ret
    exact ⟨rfl, HB.out⟩
  have d2 : (a1 == 1000000) = false := beq_eq_false_iff_ne.2 c2
  have hout : outcomeOf a1 a3 own base q = if q.f3 = true ∧ base ≤ (entryOf a3 q).f1 ∧ (entryOf a3 q).f1 ≠ ownAt own q.f0 then 15 else 0 := (if_neg c1).trans (if_neg c2)
  rw [hout]
  clear hout c2
  obtain ⟨i, hi⟩ : ∃ i : Nat, placeFrom a3 q.f0 0 = i := ⟨(placeFrom a3 q.f0 0).toNat, by omega⟩
  have hil : i < a3.length := by rcases placeFrom_range a3 q.f0 0 with h | h <;> omega
  have hpf : mailbox_Place.f a0 a1 a2 a3 a4 q.f0 = some (i : Int) := congrArg some hi
  have hent := entry_at hi hil
  rw [hi] at d1
  clear c1 hi
  generalize entryOf a3 q = x at *
  have i0 : decide (0 ≤ (i : Int)) = true := decide_eq_true (by omega)
  have i1 : decide ((i : Int) < (a3.length : Int)) = true := decide_eq_true (by omega)
  cases hr : q.f3 with
  | false =>
    rw [if_neg (fun h => by cases h.1)]
    rw [hr] at HQ HB HA
    go_enter Tryd.func25, Tryd.ntmps25
    go_wp2_with fail
    refine (mailbox_Place.calls a0 a1 a2 aA aa a3 aB ab a4 q.f0 (i : Int) _ (Kd.C_below HA3.out HB.out) ea3 (Kd.C_below HA4.out HB.out) ea4 hpf).mono ?_
    rintro e w1 ⟨rfl, hb⟩
    replace HA := Aside0.mk (blk_call HA.out hb)
    replace HQ := Aside0.mk (blk_call HQ.out hb)
    replace HB := Aside0.mk (below_step HB.out hb)
    clear hb
    have kHA := bc0 HA.out
    have mHA := bc1 HA.out
    have nHA := bc2 HA.out
    have fHA := bf0 HA.out
    have yHA := blk_lt HA.out
    have kHQ := bc0 HQ.out
    have mHQ := bc1 HQ.out
    have nHQ := bc2 HQ.out
    have fHQ := bf0 HQ.out
    have yHQ := blk_lt HQ.out
    go_wp2
    go_quiet (fail)
    go_wp2
    go_ret
    exact ⟨rfl, pw_below_drewN HB.out _⟩
  | true =>
    rw [hr] at HQ HB HA
    by_cases c3 : base ≤ x.f1
    · skip
      have d3 : decide (base ≤ x.f1) = true := decide_eq_true c3
      have hif : (if (true = true) ∧ base ≤ x.f1 ∧ x.f1 ≠ ownAt own q.f0 then (15 : Int) else 0) = if (x.f1 != ownAt own q.f0) = true then 15 else 0 := by
        by_cases e : x.f1 = ownAt own q.f0
        · rw [if_neg (fun h => h.2.2 e), if_neg (by simp [e])]
        · rw [if_pos ⟨rfl, c3, e⟩, if_pos (by simp [e])]
      rw [hif]
      obtain ⟨r, hr0⟩ : ∃ r : Int, r = (if (x.f1 != ownAt own q.f0) = true then 15 else 0) := ⟨_, rfl⟩
      rw [← hr0]
      have HR := Aside0.mk hr0
      clear hif c3 hr0
      go_enter Tryd.func25, Tryd.ntmps25
      go_wp2_with fail
      refine (mailbox_Place.calls a0 a1 a2 aA aa a3 aB ab a4 q.f0 (i : Int) _ (Kd.C_below HA3.out HB.out) ea3 (Kd.C_below HA4.out HB.out) ea4 hpf).mono ?_
      rintro e w1 ⟨rfl, hb⟩
      replace HA := Aside0.mk (blk_call HA.out hb)
      replace HQ := Aside0.mk (blk_call HQ.out hb)
      replace HB := Aside0.mk (below_step HB.out hb)
      clear hb
      obtain ⟨ad, _, _, _, _, hadA, q0, q1, -⟩ := at_T55 (Kd.C_below HA3.out HB.out) (i : Int) (by omega) (by omega)
      have hrd : rd_T55 a3 (i : Int) = x := by unfold rd_T55; rw [Int.toNat_natCast, List.getD_eq_getElem?_getD, hent]; rfl
      rw [hrd, Int.toNat_natCast] at q1
      subst hadA
      have HM1 := Aside0.mk (MW_below HM.out HB.out)
      have Q1 := Aside0.mk q1
      clear q0 q1 hent
      have kHA := bc0 HA.out
      have mHA := bc1 HA.out
      have nHA := bc2 HA.out
      have fHA := bf0 HA.out
      have yHA := blk_lt HA.out
      have kHQ := bc0 HQ.out
      have mHQ := bc1 HQ.out
      have nHQ := bc2 HQ.out
      have fHQ := bf0 HQ.out
      have yHQ := blk_lt HQ.out
      go_wp2_with fail
      clear kHA mHA nHA fHA yHA kHQ mHQ nHQ fHQ yHQ
      refine region_till 25 (fun _ => True) (fun w' : World => w'.cell? ⟨w.heap.size + 1, 0, none⟩ = some (.int .i64 q.f0) ∧ w'.cell? ⟨w.heap.size + 1, 3, none⟩ = some (.bool true) ∧ w'.cell? ⟨w.heap.size, 3, none⟩ = some (.slice (some ad) a3.length aa) ∧ w'.cell? ⟨(ad.add (i * 6)).block, (ad.add (i * 6)).off + 1, none⟩ = some (.int .i64 x.f1) ∧ MW w' B own) (by kernel_rfl) ⟨trivial, ⟨bc0 (blk_drew HQ.out) 0, bc0 (blk_drew HQ.out) 3, bc0 (blk_drew HA.out) 3, Q1.out, HM1.out⟩⟩ (fun hTU => ?_)
      refine till_takeD (i := 0) (v := ?_) (some 22) rfl rfl (by kernel_rfl) (by kernel_rfl) (by kernel_rfl) (by kernel_rfl) (fun _ _ _ h => h) (Or.inl ⟨by rfl, ?_⟩) (by assumption) ?_
      rotate_left
      · (intro w_ hS_; (try dsimp only at hS_); go_simp; try with_reducible rfl)
      try simp only [Act.put, List.setIfInBounds_toArray, List.set_cons_zero, List.set_cons_succ]
      refine till_takeD (i := 1) (v := ?_) (some 23) rfl rfl (by kernel_rfl) (by kernel_rfl) (by kernel_rfl) (by kernel_rfl) (fun _ _ _ h => h) (Or.inl ⟨by rfl, ?_⟩) (by assumption) ?_
      rotate_left
      · (intro w_ hS_; (try dsimp only at hS_); go_simp; try with_reducible rfl)
      try simp only [Act.put, List.setIfInBounds_toArray, List.set_cons_zero, List.set_cons_succ]
      refine till_takeD (i := 2) (v := ?_) (some 24) rfl rfl (by kernel_rfl) (by kernel_rfl) (by kernel_rfl) (by kernel_rfl) (fun _ _ _ h => h) (Or.inl ⟨by rfl, ?_⟩) (by assumption) ?_
      rotate_left
      · (intro w_ hS_; (try dsimp only at hS_); go_simp; try with_reducible rfl)
      try simp only [Act.put, List.setIfInBounds_toArray, List.set_cons_zero, List.set_cons_succ]
      refine till_takeD (i := 3) (v := ?_) (some 25) rfl rfl (by kernel_rfl) (by kernel_rfl) (by kernel_rfl) (by kernel_rfl) (fun _ _ _ h => h) (Or.inl ⟨by rfl, ?_⟩) (by assumption) ?_
      rotate_left
      · (intro w_ hS_; (try dsimp only at hS_); go_simp; try with_reducible rfl)
      try simp only [Act.put, List.setIfInBounds_toArray, List.set_cons_zero, List.set_cons_succ]
      refine till_takeD (i := 4) (v := ?_) (some 26) rfl rfl (by kernel_rfl) (by kernel_rfl) (by kernel_rfl) (by kernel_rfl) (fun _ _ _ h => h) (Or.inl ⟨by rfl, ?_⟩) (by assumption) ?_
      rotate_left
      · (intro w_ hS_; (try dsimp only at hS_); go_simp; try with_reducible rfl)
      try simp only [Act.put, List.setIfInBounds_toArray, List.set_cons_zero, List.set_cons_succ]
      refine till_takeD (i := 5) (v := ?_) (some 27) rfl rfl (by kernel_rfl) (by kernel_rfl) (by kernel_rfl) (by kernel_rfl) (fun _ _ _ h => h) (Or.inl ⟨by rfl, ?_⟩) (by assumption) ?_
      rotate_left
      · (intro w_ hS_; (try dsimp only at hS_); go_simp; try with_reducible rfl)
      try simp only [Act.put, List.setIfInBounds_toArray, List.set_cons_zero, List.set_cons_succ]
      refine till_takeD (i := 6) (v := ?_) (some 28) rfl rfl (by kernel_rfl) (by kernel_rfl) (by kernel_rfl) (by kernel_rfl) (fun _ _ _ h => h) (Or.inl ⟨by rfl, ?_⟩) (by assumption) ?_
      rotate_left
      · (intro w_ hS_; (try dsimp only at hS_); go_simp; try with_reducible rfl)
      try simp only [Act.put, List.setIfInBounds_toArray, List.set_cons_zero, List.set_cons_succ]
      refine till_takeD (i := 7) (v := ?_) (some 29) rfl rfl (by kernel_rfl) (by kernel_rfl) (by kernel_rfl) (by kernel_rfl) (fun _ _ _ h => h) (Or.inl ⟨by rfl, ?_⟩) (by assumption) ?_
      rotate_left
      · (intro w_ hS_; (try dsimp only at hS_); go_simp; try with_reducible rfl)
      try simp only [Act.put, List.setIfInBounds_toArray, List.set_cons_zero, List.set_cons_succ]
      refine till_takeD (i := 8) (v := ?_) (some 30) rfl rfl (by kernel_rfl) (by kernel_rfl) (by kernel_rfl) (by kernel_rfl) (fun _ _ _ h => h) (Or.inl ⟨by rfl, ?_⟩) (by assumption) ?_
      rotate_left
      · (intro w_ hS_; (try dsimp only at hS_); go_simp; try with_reducible rfl)
      try simp only [Act.put, List.setIfInBounds_toArray, List.set_cons_zero, List.set_cons_succ]
      refine till_takeD (i := 9) (v := ?_) (some 31) rfl rfl (by kernel_rfl) (by kernel_rfl) (by kernel_rfl) (by kernel_rfl) (fun _ _ _ h => h) (Or.inl ⟨by rfl, ?_⟩) (by assumption) ?_
      rotate_left
      · (intro w_ hS_; (try dsimp only at hS_); go_simp; try with_reducible rfl)
      try simp only [Act.put, List.setIfInBounds_toArray, List.set_cons_zero, List.set_cons_succ]
      refine till_takeD (i := 10) (v := ?_) (some 32) rfl rfl (by kernel_rfl) (by kernel_rfl) (by kernel_rfl) (by kernel_rfl) (fun _ _ _ h => h) (Or.inl ⟨by rfl, ?_⟩) (by assumption) ?_
      rotate_left
      · (intro w_ hS_; (try dsimp only at hS_); go_simp; try with_reducible rfl)
      try simp only [Act.put, List.setIfInBounds_toArray, List.set_cons_zero, List.set_cons_succ]
      refine till_takeD (i := 11) (v := ?_) (some 33) rfl rfl (by kernel_rfl) (by kernel_rfl) (by kernel_rfl) (by kernel_rfl) (fun _ _ _ h => h) (Or.inl ⟨by rfl, ?_⟩) (by assumption) ?_
      rotate_left
      · (intro w_ hS_; (try dsimp only at hS_); go_simp; try with_reducible rfl)
      try simp only [Act.put, List.setIfInBounds_toArray, List.set_cons_zero, List.set_cons_succ]
      refine till_takeD (i := 12) (v := ?_) (some 34) rfl rfl (by kernel_rfl) (by kernel_rfl) (by kernel_rfl) (by kernel_rfl) (fun _ _ _ h => h) (Or.inl ⟨by rfl, ?_⟩) (by assumption) ?_
      rotate_left
      · (intro w_ hS_; (try dsimp only at hS_); go_simp; try with_reducible rfl)
      try simp only [Act.put, List.setIfInBounds_toArray, List.set_cons_zero, List.set_cons_succ]
      refine till_takeD (i := 13) (v := ?_) (some 35) rfl rfl (by kernel_rfl) (by kernel_rfl) (by kernel_rfl) (by kernel_rfl) (fun _ _ _ h => h) (Or.inl ⟨by rfl, ?_⟩) (by assumption) ?_
      rotate_left
      · (intro w_ hS_; (try dsimp only at hS_); go_simp; try with_reducible rfl)
      try simp only [Act.put, List.setIfInBounds_toArray, List.set_cons_zero, List.set_cons_succ]
      refine till_takeD (i := 14) (v := ?_) (some 36) rfl rfl (by kernel_rfl) (by kernel_rfl) (by kernel_rfl) (by kernel_rfl) (fun _ _ _ h => h) (Or.inl ⟨by rfl, ?_⟩) (by assumption) ?_
      rotate_left
      · (intro w_ hS_; (try dsimp only at hS_); go_simp; try with_reducible rfl)
      try simp only [Act.put, List.setIfInBounds_toArray, List.set_cons_zero, List.set_cons_succ]
      refine till_takeD (i := 15) (v := ?_) (some 37) rfl rfl (by kernel_rfl) (by kernel_rfl) (by kernel_rfl) (by kernel_rfl) (fun _ _ _ h => h) (Or.inl ⟨by rfl, ?_⟩) (by assumption) ?_
      rotate_left
      · (intro w_ hS_; (try dsimp only at hS_); go_simp; try with_reducible rfl)
      try simp only [Act.put, List.setIfInBounds_toArray, List.set_cons_zero, List.set_cons_succ]
      refine till_takeD (i := 16) (v := ?_) (some 38) rfl rfl (by kernel_rfl) (by kernel_rfl) (by kernel_rfl) (by kernel_rfl) (fun _ _ _ h => h) (Or.inl ⟨by rfl, ?_⟩) (by assumption) ?_
      rotate_left
      · (intro w_ hS_; (try dsimp only at hS_); go_simp; try with_reducible rfl)
      try simp only [Act.put, List.setIfInBounds_toArray, List.set_cons_zero, List.set_cons_succ]
      refine till_takeD (i := 17) (v := ?_) (some 39) rfl rfl (by kernel_rfl) (by kernel_rfl) (by kernel_rfl) (by kernel_rfl) (fun _ _ _ h => h) (Or.inl ⟨by rfl, ?_⟩) (by assumption) ?_
      rotate_left
      · (intro w_ hS_; (try dsimp only at hS_); go_simp; try with_reducible rfl)
      try simp only [Act.put, List.setIfInBounds_toArray, List.set_cons_zero, List.set_cons_succ]
      refine till_takeD (i := 18) (v := ?_) (some 40) rfl rfl (by kernel_rfl) (by kernel_rfl) (by kernel_rfl) (by kernel_rfl) (fun _ _ _ h => h) (Or.inl ⟨by rfl, ?_⟩) (by assumption) ?_
      rotate_left
      · (intro w_ hS_; (try dsimp only at hS_); go_simp; try with_reducible rfl)
      try simp only [Act.put, List.setIfInBounds_toArray, List.set_cons_zero, List.set_cons_succ]
      refine till_takeD (i := 19) (v := ?_) (some 41) rfl rfl (by kernel_rfl) (by kernel_rfl) (by kernel_rfl) (by kernel_rfl) (fun _ _ _ h => h) (Or.inl ⟨by rfl, ?_⟩) (by assumption) ?_
      rotate_left
      · (intro w_ hS_; (try dsimp only at hS_); go_simp; try with_reducible rfl)
      try simp only [Act.put, List.setIfInBounds_toArray, List.set_cons_zero, List.set_cons_succ]
      refine till_takeD (i := 20) (v := ?_) (some 42) rfl rfl (by kernel_rfl) (by kernel_rfl) (by kernel_rfl) (by kernel_rfl) (fun _ _ _ h => h) (Or.inl ⟨by rfl, ?_⟩) (by assumption) ?_
      rotate_left
      · (intro w_ hS_; (try dsimp only at hS_); go_simp; try with_reducible rfl)
      try simp only [Act.put, List.setIfInBounds_toArray, List.set_cons_zero, List.set_cons_succ]
      refine till_takeD (i := 21) (v := ?_) (some 43) rfl rfl (by kernel_rfl) (by kernel_rfl) (by kernel_rfl) (by kernel_rfl) (fun _ _ _ h => h) (Or.inl ⟨by rfl, ?_⟩) (by assumption) ?_
      rotate_left
      · (intro w_ hS_; (try dsimp only at hS_); go_simp; try with_reducible rfl)
      try simp only [Act.put, List.setIfInBounds_toArray, List.set_cons_zero, List.set_cons_succ]
      refine till_takeD (i := 22) (v := ?_) (some 44) rfl rfl (by kernel_rfl) (by kernel_rfl) (by kernel_rfl) (by kernel_rfl) (fun _ _ _ h => h) (Or.inl ⟨by rfl, ?_⟩) (by assumption) ?_
      rotate_left
      · (intro w_ hS_; (try dsimp only at hS_); go_simp; rw [MW_look hS_.2.2.2.2.2 hq]; rfl)
      try simp only [Act.put, List.setIfInBounds_toArray, List.set_cons_zero, List.set_cons_succ]
      refine till_takeD (i := 23) (v := ?_) (some 45) rfl rfl (by kernel_rfl) (by kernel_rfl) (by kernel_rfl) (by kernel_rfl) (fun _ _ _ h => h) (Or.inl ⟨by rfl, ?_⟩) (by assumption) ?_
      rotate_left
      · (intro w_ hS_; (try dsimp only at hS_); go_simp; try with_reducible rfl)
      try simp only [Act.put, List.setIfInBounds_toArray, List.set_cons_zero, List.set_cons_succ]
      refine till_takeD (i := 24) (v := ?_) (some 46) rfl rfl (by kernel_rfl) (by kernel_rfl) (by kernel_rfl) (by kernel_rfl) (fun _ _ _ h => h) (Or.inl ⟨by rfl, ?_⟩) (by assumption) ?_
      rotate_left
      · (intro w_ hS_; (try dsimp only at hS_); go_simp; try with_reducible rfl)
      try simp only [Act.put, List.setIfInBounds_toArray, List.set_cons_zero, List.set_cons_succ]
      refine till_one (i := 25) (by kernel_rfl) rfl (fun K hK => ?_)
      go_simp
      refine hK.out _ _ trivial (fun _ h => absurd rfl h) (fun _ => ?_)
      clear hK K hTU
      refine till_done (by kernel_rfl) ?_ _
      by_cases e : (x.f1 != ownAt own q.f0) = true
      · go_wp2
        go_ret
        exact ⟨congrArg (fun z => Ending.returned (.int .i64 z)) (HR.out.trans (if_pos e)).symm, below_drew1 HB.out⟩
      · have e0 : (x.f1 != ownAt own q.f0) = false := by simpa using e
        go_wp2
        go_ret
        exact ⟨congrArg (fun z => Ending.returned (.int .i64 z)) (HR.out.trans (if_neg e)).symm, below_drew1 HB.out⟩
    · skip
      rw [if_neg (fun h => c3 h.2.1)]
      have d3 : decide (base ≤ x.f1) = false := decide_eq_false c3
      clear c3
      go_enter Tryd.func25, Tryd.ntmps25
      go_wp2_with fail
      refine (mailbox_Place.calls a0 a1 a2 aA aa a3 aB ab a4 q.f0 (i : Int) _ (Kd.C_below HA3.out HB.out) ea3 (Kd.C_below HA4.out HB.out) ea4 hpf).mono ?_
      rintro e w1 ⟨rfl, hb⟩
      replace HA := Aside0.mk (blk_call HA.out hb)
      replace HQ := Aside0.mk (blk_call HQ.out hb)
      replace HB := Aside0.mk (below_step HB.out hb)
      clear hb
      have kHA := bc0 HA.out
      have mHA := bc1 HA.out
      have nHA := bc2 HA.out
      have fHA := bf0 HA.out
      have yHA := blk_lt HA.out
      have kHQ := bc0 HQ.out
      have mHQ := bc1 HQ.out
      have nHQ := bc2 HQ.out
      have fHQ := bf0 HQ.out
      have yHQ := blk_lt HQ.out
      obtain ⟨ad, _, _, _, _, hadA, q0, q1, -⟩ := at_T55 (Kd.C_below HA3.out HB.out) (i : Int) (by omega) (by omega)
      have hrd : rd_T55 a3 (i : Int) = x := by unfold rd_T55; rw [Int.toNat_natCast, List.getD_eq_getElem?_getD, hent]; rfl
      rw [hrd, Int.toNat_natCast] at q1
      subst hadA
      go_wp2
      go_quiet (fail)
      go_wp2
      go_ret
      exact ⟨rfl, pw_below_drewN HB.out _⟩


end Go.Proofs.YtbnmddippoiabaaDoor.P
