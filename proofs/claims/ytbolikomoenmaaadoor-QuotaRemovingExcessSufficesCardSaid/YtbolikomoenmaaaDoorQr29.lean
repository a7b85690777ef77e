/- Functions of this seat as Lean functions, and that the Go code comes to their answers: written by a program of this session's. -/
import Derived.Test.YtbolikomoenmaaaDoorQr28
import Derived.Test.YtbolikomoenmaaaDoorQr10
import Derived.Test.YtbolikomoenmaaaDoorQr15
namespace Go.Proofs.YtbolikomoenmaaaDoor.P
open Go.RowKit Go.Proofs.YtbolikomoenmaaaDoorW.PrintWords Go.Proofs.YtbolikomoenmaaaDoorW.PrintLast Go.Proofs.YtbolikomoenmaaaDoorW.PrintMore
attribute [local go_sem] max2_int min2_int max_two min_two max_three min_three max_four min_four   -- for this text's walks alone
set_option linter.unusedVariables false
set_option linter.unusedSimpArgs false

/-! ### message_Bytes: function 26 -/
theorem owns_made {W : World} {cur : Array Value} {cap base : Nat} (hb : base ≤ W.heap.size) (hm : cap ≤ maxLen) (hs : cur.size = cap) :
    (W.alloc (.cells cur 5)).ownsRow base 5 1 (.slice (some ⟨W.heap.size, 0, none⟩) 0 cap) 0 [] := World.ownsRow_made W cur cap hb hm (by rw [hs, Nat.mul_one])
/-- slices.Grow of nothing: an own row without elements. -/
theorem grow_calls (n : Nat) (x : Int) (hx : x = n) (w : World) (hn : n ≤ 140737488355328) :
    Calls Tryd.prog 51 #[.slice none 0 0, .int .i64 x] w fun e w' => ∃ v, e = .returned v ∧ w'.ownsRow w.heap.size 5 1 v 0 [] ∧ Below w.heap.size w w' := by
  subst hx
  have hu := Tryd.underlying29
  have hui := Tryd.underlying3
  rcases Nat.eq_zero_or_pos n with h0 | h0
  · subst h0
    go_enter Tryd.func51, Tryd.ntmps51
    go_wp2
    go_ret
    exact ⟨_, rfl, World.ownsRow_nil _ _ _ _, Below.refl _ _⟩
  · have h1 : decide ((n : Int) < 0) = false := decide_eq_false (by omega)
    have h2 : decide (0 < (n : Int)) = true := decide_eq_true (by omega)
    have h3 : IntKind.i64.wrap ((n : Int) - 0) = n := by rw [IntKind.wrap_i64]; omega
    have h4 : (n : Int) - 0 = n := by omega
    have h5 : IntKind.i64.wrap (n : Int) = n := by rw [IntKind.wrap_i64]; omega
    obtain ⟨i, hi, hz⟩ := Option.map_eq_some_iff.1 (show (Tryd.prog.info? 5).map (fun i => (i.zero, i.size, i.bytes)) = some (some (.int .u8 0), 1, 1) from by kernel_rfl)
    simp only [Prod.mk.injEq] at hz
    have hr := Lib.run_append_nil_zeros (P := Tryd.prog) w 29 3 29 5 i (.int .u8 0) .i64 .i64 hu hui hi hz.1 n h0 (by rw [hz.2.1]; omega) (by omega) (by rw [hz.2.2]; omega)
    have hc := grownCap_ge w n 0 5
    have hm := grownCap_le_maxLen w n 0 5 (by unfold maxLen; omega)
    generalize grownCap w n 0 5 = cap at hr hc hm
    go_enter Tryd.func51, Tryd.ntmps51
    go_wp2_with (at_builtin; refine Lib.wpList_append_run w rfl _ _ _ _ rfl _ _ rfl rfl _ _ hr ?_)
    go_ret
    exact ⟨_, rfl, owns_made (W := w.drew) (Nat.le_refl _) hm (by simp [Builtin.zeroCells, Value.cells]; omega), below_alloc (below_drew1 (Below.refl _ _)) _⟩
theorem elder_own {w : World} {base base' : Nat} {e size : Nat} {v : Value} {n : Nat} {xs : List Value} (h : w.ownsRow base e size v n xs) (hb : base' ≤ base) : w.ownsRow base' e size v n xs := by
  refine ⟨h.1, ?_⟩
  rcases h.2 with h0 | ⟨g, cap, cur, rfl, hg, rest⟩
  · exact .inl h0
  · exact .inr ⟨g, cap, cur, rfl, Nat.le_trans hb hg, rest⟩
set_option maxHeartbeats 2000000 in
set_option maxRecDepth 100000 in
/-- slices.Concat of two lists of bytes. -/
theorem concat_calls (g : Nat) (A1 A2 : Option Addr) (c1 c2 : Nat) (l1 l2 : List Int) (cur : Array Value) (w : World) (hg : w.heap[g]? = some (.cells cur 29 (0, 0))) (hk0 : cur[0]? = some (.slice A1 l1.length c1)) (hk1 : cur[1]? = some (.slice A2 l2.length c2))
    (hr1 : Kd.C (Kd.int .u8) w A1 l1.length l1) (hr2 : Kd.C (Kd.int .u8) w A2 l2.length l2) (hl : l1.length + l2.length ≤ 140737488355328) :
    Calls Tryd.prog 41 #[.slice (some ⟨g, 0, none⟩) 2 2] w fun e w' => ∃ v, e = .returned v ∧ Kd.R (Kd.int .u8) 5 w' w.heap.size (fun _ => True) v (l1 ++ l2) ∧ Below w.heap.size w w' := by
  have hu := Tryd.underlying29
  have hu2 := Tryd.underlying96
  have q0 : w.cell? ⟨g, 0, none⟩ = some (.slice A1 l1.length c1) := (blk_cell hg 0).trans hk0
  have q1 : w.cell? ⟨g, 1, none⟩ = some (.slice A2 l2.length c2) := (blk_cell hg 1).trans hk1
  have H1 := Aside0.mk hr1
  have H2 := Aside0.mk hr2
  have HL := Aside0.mk hl
  have HG := Aside0.mk hg
  have HK0 := Aside0.mk hk0
  have HK1 := Aside0.mk hk1
  have s1 : IntKind.i64.wrap (0 + (l1.length : Int)) = (l1.length : Int) := by rw [IntKind.wrap_i64]; omega
  have s1' : IntKind.i64.wrap (l1.length : Int) = (l1.length : Int) := by rw [IntKind.wrap_i64]; omega
  have s2 : IntKind.i64.wrap ((l1.length : Int) + (l2.length : Int)) = (l1.length : Int) + (l2.length : Int) := by rw [IntKind.wrap_i64]; omega
  have n1 : decide ((l1.length : Int) < 0) = false := decide_eq_false (by omega)
  have n2 : decide ((l1.length : Int) + (l2.length : Int) < 0) = false := decide_eq_false (by omega)
  clear hr1 hr2 hl hg hk0 hk1
  go_enter Tryd.func41, Tryd.ntmps41
  go_wp2
  go_loopg [3, 11] 2 (fun gg v3 v11 W => W = w ∧ (v11 = .int .i64 0 ∧ v3 = .int .i64 0 ∧ 2 ≤ gg ∨ v11 = .int .i64 1 ∧ v3 = .int .i64 (l1.length : Int) ∧ 1 ≤ gg ∨ v11 = .int .i64 2 ∧ v3 = .int .i64 ((l1.length : Int) + (l2.length : Int))))
  case atStart => exact ⟨rfl, .inl ⟨rfl, rfl, by omega⟩⟩
  case round =>
    obtain ⟨hw, hrel⟩ := hrel
    obtain rfl := hw.symm
    obtain ⟨rfl, rfl, hgg⟩ | ⟨rfl, rfl, hgg⟩ | ⟨rfl, rfl⟩ := hrel
    · go_wp2
      go_roundg 1
      case measure => omega
      case rel => exact ⟨rfl, .inr (.inl ⟨rfl, rfl, by omega⟩)⟩
    · go_wp2
      go_roundg 0
      case measure => omega
      case rel => exact ⟨rfl, .inr (.inr ⟨rfl, rfl⟩)⟩
    · go_wp2_with (first | (go_at_call 51; refine (grow_calls (l1.length + l2.length) _ (by omega) _ HL.out).mono ?_; rintro e w2 ⟨v, rfl, ho, hb⟩))
      have HO := Aside0.mk (Kd.R_of_own (enc := Value.int .u8) (h1 := fun _ => rfl) (xs := ([] : List Int)) (ok := fun _ => True) ho (fun _ _ => trivial))
      have HB := Aside0.mk hb
      clear ho hb
      have info : (Tryd.prog.info? 5).map (fun i => (i.zero, i.size, i.bytes)) = some (some (.int .u8 0), 1, 1) := by kernel_rfl
      have INFO := Aside0.mk info
      clear info
      go_loopg [6, 27] 2 (fun gg v6 v27 W => Aside0 (Below w.heap.size w W) ∧ (v27 = .int .i64 0 ∧ Aside0 (Kd.R (Kd.int .u8) 5 W w.heap.size (fun _ => True) v6 []) ∧ 2 ≤ gg ∨ v27 = .int .i64 1 ∧ Aside0 (Kd.R (Kd.int .u8) 5 W w.heap.size (fun _ => True) v6 l1) ∧ 1 ≤ gg ∨ v27 = .int .i64 2 ∧ Aside0 (Kd.R (Kd.int .u8) 5 W w.heap.size (fun _ => True) v6 (l1 ++ l2))))
      case atStart => exact ⟨HB, .inl ⟨rfl, HO, by omega⟩⟩
      case round =>
        clear HB HO q0 q1
        obtain ⟨HB, ⟨rfl, HO, hgg⟩ | ⟨rfl, HO, hgg⟩ | ⟨rfl, HO⟩⟩ := hrel
        · have q0 := (blk_cell (blk_call HG.out HB.out) 0).trans HK0.out
          go_wp2_with (first | (at_builtin; refine Kd.R_append_row (Value.int .u8) (0 : Int) (h1 := fun _ => rfl) (w0 := w) w.heap.size rfl (.tmp 31) (.tmp 32) 29 5 (.int .u8 0) 1 rfl hu INFO.out rfl (by decide) u6 [] l1 A1 _ c1 (fun _ => True) rfl rfl (fun _ _ => trivial) HO.out (Kd.C_below H1.out HB.out) HB.out (below_size HB.out) (by have := HL.out; simp; omega) ?_; intro v1 w3 ho hb hg' hat))
          go_roundg 1
          case measure => omega
          case rel => exact ⟨⟨hb⟩, .inr (.inl ⟨rfl, ⟨ho⟩, by omega⟩)⟩
        · have q1 := (blk_cell (blk_call HG.out HB.out) 1).trans HK1.out
          go_wp2_with (first | (at_builtin; refine Kd.R_append_row (Value.int .u8) (0 : Int) (h1 := fun _ => rfl) (w0 := w) w.heap.size rfl (.tmp 31) (.tmp 32) 29 5 (.int .u8 0) 1 rfl hu INFO.out rfl (by decide) u6 l1 l2 A2 _ c2 (fun _ => True) rfl rfl (fun _ _ => trivial) HO.out (Kd.C_below H2.out HB.out) HB.out (below_size HB.out) (by have := HL.out; simp; omega) ?_; intro v1 w3 ho hb hg' hat))
          go_roundg 0
          case measure => omega
          case rel => exact ⟨⟨hb⟩, .inr (.inr ⟨rfl, ⟨ho⟩⟩)⟩
        · go_wp2
          go_ret
          exact ⟨_, rfl, HO.out, HB.out⟩
-- MESSAGE.BYTES
def message_Bytes.f (k : Nat) (l0_0 : List (S70)) (l0_1 : List Int) : Option (List Int) := (header_Bytes.f k l0_0).bind fun b => if b.length + l0_1.length ≤ 140737488355328 then some (b ++ l0_1) else none
theorem message_Bytes.mono : ∀ a0 a1 k, LeO (message_Bytes.f k a0 a1) (message_Bytes.f (k + 1) a0 a1) := by
  intro a0 a1 k
  unfold message_Bytes.f
  exact LeO.bind (header_Bytes.mono _ _) (fun _ => LeO.refl _)
set_option maxHeartbeats 2000000 in
set_option maxRecDepth 100000 in
theorem message_Bytes.calls (k : Nat) (A0_0 : Option Addr) (c0_0 : Nat) (l0_0 : List (S70)) (A0_1 : Option Addr) (c0_1 : Nat) (l0_1 : List Int) (r : List Int) (w : World) (hr0_0 : Kd.C k70 w A0_0 l0_0.length l0_0) (hc0_0 : l0_0.length ≤ c0_0) (hr0_1 : Kd.C (Kd.int .u8) w A0_1 l0_1.length l0_1) (hc0_1 : l0_1.length ≤ c0_1) (h : message_Bytes.f k l0_0 l0_1 = some r) :
    Calls Tryd.prog 26 #[.agg #[.slice A0_0 l0_0.length c0_0, .slice A0_1 l0_1.length c0_1]] w fun e w' => ∃ v0_ : Value, e = .returned v0_ ∧ Kd.R (Kd.int .u8) 5 w' w.heap.size (fun _ => True) v0_ r ∧ Below w.heap.size w w' := by
  unfold message_Bytes.f at h
  obtain ⟨b, hb0, h⟩ := Option.bind_eq_some_iff.1 h
  split at h
  case isFalse => cases h
  case isTrue hlen =>
  cases h
  have hu := Tryd.underlying31
  have hu2 := Tryd.underlying96
  have H0 := Aside0.mk hr0_0
  have H1 := Aside0.mk hr0_1
  have HH := Aside0.mk hb0
  have HLEN := Aside0.mk hlen
  clear hr0_0 hr0_1 hb0 hlen
  have HB := Aside0.mk (below_alloc (Below.refl w.heap.size w) (.cells #[.slice A0_0 l0_0.length c0_0, .slice A0_1 l0_1.length c0_1] 31))
  have HX := Aside0.mk (blk_at (w := w) (.cells #[.slice A0_0 l0_0.length c0_0, .slice A0_1 l0_1.length c0_1] 31))
  go_enter Tryd.func26, Tryd.ntmps26
  go_wp2_with fail
  refine region_till 7 (fun _ => True) (fun w' : World => w'.cell? ⟨w.heap.size, 0, none⟩ = some (.slice A0_0 l0_0.length c0_0) ∧ w'.cell? ⟨w.heap.size, 1, none⟩ = some (.slice A0_1 l0_1.length c0_1)) (by kernel_rfl) ⟨trivial, ⟨bc0 (blk_drew HX.out) 0, bc0 (blk_drew HX.out) 1⟩⟩ (fun hTU => ?_)
  replace HX := Aside0.mk (blk_drew HX.out)
  replace HB := Aside0.mk (below_drew1 HB.out)
  generalize (w.alloc (.cells #[.slice A0_0 l0_0.length c0_0, .slice A0_1 l0_1.length c0_1] 31)).drew = X1 at *
  refine till_takeD (i := 0) (v := ?_) (some 3) rfl rfl (by kernel_rfl) (by kernel_rfl) (by kernel_rfl) (by kernel_rfl) (fun _ _ _ h => h) (Or.inl ⟨by rfl, ?_⟩) (by assumption) ?_
  rotate_left
  · (intro w_ hS_; (try dsimp only at hS_); go_simp; try with_reducible rfl)
  try simp only [Act.put, List.setIfInBounds_toArray, List.set_cons_zero, List.set_cons_succ]
  refine till_takeD (i := 1) (v := ?_) (some 4) rfl rfl (by kernel_rfl) (by kernel_rfl) (by kernel_rfl) (by kernel_rfl) (fun _ _ _ h => h) (Or.inl ⟨by rfl, ?_⟩) (by assumption) ?_
  rotate_left
  · (intro w_ hS_; (try dsimp only at hS_); go_simp; try with_reducible rfl)
  try simp only [Act.put, List.setIfInBounds_toArray, List.set_cons_zero, List.set_cons_succ]
  refine till_takeD (i := 3) (v := ?_) (some 6) rfl rfl (by kernel_rfl) (by kernel_rfl) (by kernel_rfl) (by kernel_rfl) (fun _ _ _ h => h) (Or.inl ⟨by rfl, ?_⟩) (by assumption) ?_
  rotate_left
  · (intro w_ hS_; (try dsimp only at hS_); go_simp; try with_reducible rfl)
  try simp only [Act.put, List.setIfInBounds_toArray, List.set_cons_zero, List.set_cons_succ]
  refine till_takeD (i := 4) (v := ?_) (some 7) rfl rfl (by kernel_rfl) (by kernel_rfl) (by kernel_rfl) (by kernel_rfl) (fun _ _ _ h => h) (Or.inl ⟨by rfl, ?_⟩) (by assumption) ?_
  rotate_left
  · (intro w_ hS_; (try dsimp only at hS_); go_simp; try with_reducible rfl)
  try simp only [Act.put, List.setIfInBounds_toArray, List.set_cons_zero, List.set_cons_succ]
  refine till_one (i := 2) (by kernel_rfl) rfl (fun K hK => ?_)
  go_simp
  go_at_call 29
  refine (header_Bytes.calls k A0_0 c0_0 l0_0 b _ (Kd.C_below H0.out HB.out) hc0_0 HH.out).mono ?_
  rintro e x2 ⟨v_, rfl, hv, hb⟩
  obtain ⟨nA, na, rfl⟩ := Kd.R_slice hv
  have HV := Aside0.mk (Kd.R_V (base' := 0) hv)
  clear hv
  replace HX := Aside0.mk (blk_call HX.out hb)
  replace HB := Aside0.mk (below_step HB.out hb)
  clear hb
  refine hK.out _ _ trivial (fun _ _ => ⟨bc0 HX.out 0, bc0 HX.out 1⟩) (fun hTV => ?_)
  clear hK K hTU
  have hTU := hTV (by kernel_rfl) (by decide)
  clear hTV
  try simp only [Act.put, List.setIfInBounds_toArray, List.set_cons_zero, List.set_cons_succ]
  refine till_one (i := 5) (by kernel_rfl) rfl (fun K hK => ?_)
  go_simp
  have l1_g5 := blk_lt HX.out
  replace HX := Aside0.mk (blk_later HX.out (.cells #[.slice nA b.length na, .slice A0_1 l0_1.length c0_1] 29))
  replace HV := Aside0.mk (Kd.V_alloc HV.out (.cells #[.slice nA b.length na, .slice A0_1 l0_1.length c0_1] 29))
  replace HB := Aside0.mk (below_alloc HB.out (.cells #[.slice nA b.length na, .slice A0_1 l0_1.length c0_1] 29))
  have HG := Aside0.mk (blk_at (w := x2) (.cells #[.slice nA b.length na, .slice A0_1 l0_1.length c0_1] 29))
  have hs5 : (x2.alloc (.cells #[.slice nA b.length na, .slice A0_1 l0_1.length c0_1] 29)).heap.size = x2.heap.size + 1 := by simp
  generalize x2.alloc (.cells #[.slice nA b.length na, .slice A0_1 l0_1.length c0_1] 29) = X3 at *
  generalize x2.heap.size = g5 at *
  refine hK.out _ _ trivial (fun _ _ => ⟨bc0 HX.out 0, bc0 HX.out 1⟩) (fun hTV => ?_)
  clear hK K hTU
  have hTU := hTV (by kernel_rfl) (by decide)
  clear hTV
  try simp only [Act.put, List.setIfInBounds_toArray, List.set_cons_zero, List.set_cons_succ]
  refine till_one (i := 6) (by kernel_rfl) rfl (fun K hK => ?_)
  go_simp
  go_at_call 41
  refine (concat_calls g5 nA A0_1 na c0_1 b l0_1 _ _ HG.out rfl rfl (Kd.V_reads' HV.out).2.2 (Kd.C_below H1.out HB.out) HLEN.out).mono ?_
  rintro e x4 ⟨v4_, rfl, hv, hb⟩
  have HV4 := Aside0.mk hv
  have HS4 := Aside0.mk (below_size HB.out)
  clear hv
  replace HX := Aside0.mk (blk_call HX.out hb)
  replace HG := Aside0.mk (blk_call HG.out hb)
  replace HV := Aside0.mk (Kd.V_below HV.out hb)
  replace HB := Aside0.mk (below_step HB.out hb)
  clear hb
  refine hK.out _ _ trivial (fun _ _ => ⟨bc0 HX.out 0, bc0 HX.out 1⟩) (fun hTV => ?_)
  clear hK K hTU
  have hTU := hTV (by kernel_rfl) (by decide)
  clear hTV
  try simp only [Act.put, List.setIfInBounds_toArray, List.set_cons_zero, List.set_cons_succ]
  refine till_one (i := 7) (by kernel_rfl) rfl (fun K hK => ?_)
  go_simp
  refine hK.out _ _ trivial (fun _ h => absurd rfl h) (fun _ => ?_)
  clear hK K hTU
  refine till_done (by kernel_rfl) ?_ _
  go_wp2
  go_ret
  exact ⟨_, rfl, Kd.R_of_own (h1 := fun _ => rfl) (elder_own (Kd.own_of_R (h1 := fun _ => rfl) HV4.out) HS4.out) (fun _ _ => trivial), HB.out⟩


end Go.Proofs.YtbolikomoenmaaaDoor.P
