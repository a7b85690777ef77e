/- Several texts in one, each in its own section. The last: Functions of this seat as Lean functions, and that the Go code comes to their answers: written by a program of this session's. -/
import Derived.Test.YtbolikomoenmaaaDoorQr28
import Derived.Test.YtbolikomoenmaaaDoorQr10
import Derived.Test.YtbolikomoenmaaaDoorQr38
/- Functions of this seat as Lean functions, and that the Go code comes to their answers: written by a program of this session's. -/
section
namespace Go.Proofs.YtbolikomoenmaaaDoor.P
open Go.RowKit Go.Proofs.YtbolikomoenmaaaDoorW.PrintWords Go.Proofs.YtbolikomoenmaaaDoorW.PrintLast Go.Proofs.YtbolikomoenmaaaDoorW.PrintMore
attribute [local go_sem] max2_int min2_int max_two min_two max_three min_three max_four min_four   -- for this text's walks alone
set_option linter.unusedVariables false
set_option linter.unusedSimpArgs false

/-! ### posthouseref1_HeaderBytes: function 42 -/
/-- The lines of a field behind what is there. -/
def joinLines (out : ByteArray) : List ByteArray → ByteArray
  | [] => out
  | s :: r => joinLines ((out ++ s) ++ (⟨#[13, 10]⟩ : ByteArray)) r
theorem joinLines_size : ∀ (l : List ByteArray) (out : ByteArray), out.size ≤ (joinLines out l).size
  | [], _ => Nat.le_refl _
  | s :: r, out => Nat.le_trans (by rw [ByteArray.size_append, ByteArray.size_append]; omega) (joinLines_size r ((out ++ s) ++ (⟨#[13, 10]⟩ : ByteArray)))
def posthouseref1_HeaderBytes.go (k : Nat) : List (S70) → ByteArray → Option ByteArray
  | [], out => some out
  | x :: r, out => (posthouseref1_Folded.f k x.f0 x.f1).bind fun ls => posthouseref1_HeaderBytes.go k r (joinLines out ls)
theorem posthouseref1_HeaderBytes.go_size {k : Nat} : ∀ (l : List (S70)) (out t : ByteArray), posthouseref1_HeaderBytes.go k l out = some t → out.size ≤ t.size
  | [], _, _, h => by cases h; exact Nat.le_refl _
  | x :: r, out, t, h => by
    obtain ⟨ls, h1, h2⟩ := Option.bind_eq_some_iff.mp h
    exact Nat.le_trans (joinLines_size ls out) (posthouseref1_HeaderBytes.go_size r _ _ h2)
theorem posthouseref1_HeaderBytes.go_mono (k : Nat) : ∀ (l : List (S70)) (out : ByteArray), LeO (posthouseref1_HeaderBytes.go k l out) (posthouseref1_HeaderBytes.go (k + 1) l out)
  | [], _ => LeO.refl _
  | x :: r, out => LeO.bind (posthouseref1_Folded.mono _ _ _) (fun ls => posthouseref1_HeaderBytes.go_mono k r _)
def posthouseref1_HeaderBytes.f (k : Nat) (l0 : List (S70)) : Option (List Int) := (posthouseref1_HeaderBytes.go k l0 ByteArray.empty).bind fun t => if t.size + 2 ≤ 140737488351232 then some (bytesOf (t ++ (⟨#[13, 10]⟩ : ByteArray))) else none
theorem posthouseref1_HeaderBytes.mono : ∀ a0 k, LeO (posthouseref1_HeaderBytes.f k a0) (posthouseref1_HeaderBytes.f (k + 1) a0) :=
  fun a0 k => LeO.bind (posthouseref1_HeaderBytes.go_mono k a0 _) (fun _ => LeO.refl _)

/-- A list of bytes that a conversion has made: its block bears a conversion's mark behind the last cell. -/
def MarkedRow (w : World) (base g cap : Nat) (cur : Array Value) (r : List Int) : Prop :=
  w.heap[g]? = some (.cells cur 5 (cur.size, cur.size + 1)) ∧ base ≤ g ∧ cur.size = cap ∧ r.length ≤ cap ∧ (∀ j, j < r.length → cur[j]? = some (.int .u8 (r.getD j 0))) ∧ r.length ≤ 140737488351232
theorem bytes_cells (w : World) (e : Nat) (s : ByteArray) (j : Nat) (hj : j < (bytesOf s).length) : (Lib.bytesCells w e s)[j]? = some (.int .u8 ((bytesOf s).getD j 0)) := by
  have h' : j < s.data.toList.length := by rw [data_length]; rw [bytesOf_length] at hj; exact hj
  have h2 : j < s.data.size := by simpa using h'
  rw [Lib.bytesCells, Array.getElem?_append_left (by simpa using h2)]
  simp [bytesOf, List.getD_eq_getElem?_getD, Array.getElem?_eq_getElem h2]
set_option maxHeartbeats 2000000 in
set_option maxRecDepth 100000 in
theorem posthouseref1_HeaderBytes.calls0 (k : Nat) (A0 : Option Addr) (c0 : Nat) (l0 : List (S70)) (r : List Int) (w : World) (hr0 : Kd.C k70 w A0 l0.length l0) (hc0 : l0.length ≤ c0) (h : posthouseref1_HeaderBytes.f k l0 = some r) :
    Calls Tryd.prog 42 #[.slice A0 l0.length c0] w fun e w' => ∃ (g cap : Nat) (cur : Array Value), e = .returned (.slice (some ⟨g, 0, none⟩) r.length cap) ∧ MarkedRow w' w.heap.size g cap cur r ∧ Below w.heap.size w w' := by
  obtain ⟨t, ht, h⟩ := Option.bind_eq_some_iff.mp h
  by_cases hs : t.size + 2 ≤ 140737488351232
  case neg => rw [if_neg hs] at h; cases h
  rw [if_pos hs] at h
  obtain rfl := Option.some.inj h
  clear h
  have hn := hr0.2.1
  have HR := Aside0.mk hr0
  have HT := Aside0.mk ht
  have HS := Aside0.mk hs
  have HB := Aside0.mk (Below.refl w.heap.size w)
  clear hr0 ht hs
  go_enter Tryd.func42, Tryd.ntmps42
  go_wp2
  go_loopg [3, 4] l0.length (fun gg v3 v4 W => ∃ (i : Nat) (out : ByteArray), i ≤ l0.length ∧ l0.length - i ≤ gg ∧ v3 = .string out ∧ v4 = .int .i64 i ∧ Aside0 (posthouseref1_HeaderBytes.go k (l0.drop i) out = some t) ∧ Aside0 (Below w.heap.size w W))
  case atStart => exact ⟨0, ByteArray.empty, Nat.zero_le _, Nat.le_refl _, rfl, rfl, HT, HB⟩
  case round =>
    obtain ⟨i, out, hi, hg, rfl, rfl, HG, HB1⟩ := hrel
    by_cases hlt : i < l0.length
    · have hx := List.getElem?_eq_getElem hlt
      have hgo := HG.out
      rw [List.drop_eq_getElem_cons hlt] at hgo
      obtain ⟨ls, hf, hgo⟩ := Option.bind_eq_some_iff.mp hgo
      obtain ⟨ad, e, q0, q1⟩ := at_T70 HR.out (i : Int) (by omega) (by omega)
      cases e
      replace q0 := (HB1.out.cell (World.block_lt_of_cell? w _ q0)).trans q0
      replace q1 := (HB1.out.cell (World.block_lt_of_cell? w _ q1)).trans q1
      have er : rd_T70 l0 (i : Int) = l0[i] := by rw [rd_T70, Int.toNat_natCast, List.getD_eq_getElem?_getD, hx]; rfl
      rw [er, Int.toNat_natCast] at q0 q1
      generalize l0[i] = x at hf q0 q1 hgo
      have HF := Aside0.mk hf
      have HGO := Aside0.mk hgo
      clear hf hgo hx er HG
      have d0 : decide ((i : Int) < (l0.length : Int)) = true := decide_eq_true (by omega)
      have d1 : (0 ≤ (i : Int)) = True := eq_true (by omega)
      have d2 : ((i : Int) < (l0.length : Int)) = True := eq_true (by omega)
      go_wp2_with (fail)
      refine region_till 11 (fun _ => True) (fun w' : World => w'.cell? (ad.add (i * 2)) = some (.string x.f0) ∧ w'.cell? ⟨(ad.add (i * 2)).block, (ad.add (i * 2)).off + 1, none⟩ = some (.string x.f1)) (by kernel_rfl) ⟨trivial, ⟨q0, q1⟩⟩ (fun hTU => ?_)
      refine till_takeD (i := 0) (v := ?_) (some 13) rfl rfl (by kernel_rfl) (by kernel_rfl) (by kernel_rfl) (by kernel_rfl) (fun _ _ _ h => h) (Or.inl ⟨by rfl, ?_⟩) (by assumption) ?_
      rotate_left
      · (intro w_ hS_; (try dsimp only at hS_); go_simp; try with_reducible rfl)
      try simp only [Act.put, List.setIfInBounds_toArray, List.set_cons_zero, List.set_cons_succ]
      refine till_takeD (i := 1) (v := ?_) (some 14) rfl rfl (by kernel_rfl) (by kernel_rfl) (by kernel_rfl) (by kernel_rfl) (fun _ _ _ h => h) (Or.inl ⟨by rfl, ?_⟩) (by assumption) ?_
      rotate_left
      · (intro w_ hS_; (try dsimp only at hS_); go_simp; try with_reducible rfl)
      try simp only [Act.put, List.setIfInBounds_toArray, List.set_cons_zero, List.set_cons_succ]
      refine till_takeD (i := 2) (v := ?_) (some 15) rfl rfl (by kernel_rfl) (by kernel_rfl) (by kernel_rfl) (by kernel_rfl) (fun _ _ _ h => h) (Or.inl ⟨by rfl, ?_⟩) (by assumption) ?_
      rotate_left
      · (intro w_ hS_; (try dsimp only at hS_); go_simp; try with_reducible rfl)
      try simp only [Act.put, List.setIfInBounds_toArray, List.set_cons_zero, List.set_cons_succ]
      refine till_takeD (i := 3) (v := ?_) (some 16) rfl rfl (by kernel_rfl) (by kernel_rfl) (by kernel_rfl) (by kernel_rfl) (fun _ _ _ h => h) (Or.inl ⟨by rfl, ?_⟩) (by assumption) ?_
      rotate_left
      · (intro w_ hS_; (try dsimp only at hS_); go_simp; try with_reducible rfl)
      try simp only [Act.put, List.setIfInBounds_toArray, List.set_cons_zero, List.set_cons_succ]
      refine till_takeD (i := 4) (v := ?_) (some 17) rfl rfl (by kernel_rfl) (by kernel_rfl) (by kernel_rfl) (by kernel_rfl) (fun _ _ _ h => h) (Or.inl ⟨by rfl, ?_⟩) (by assumption) ?_
      rotate_left
      · (intro w_ hS_; (try dsimp only at hS_); go_simp; try with_reducible rfl)
      try simp only [Act.put, List.setIfInBounds_toArray, List.set_cons_zero, List.set_cons_succ]
      refine till_takeD (i := 5) (v := ?_) (some 18) rfl rfl (by kernel_rfl) (by kernel_rfl) (by kernel_rfl) (by kernel_rfl) (fun _ _ _ h => h) (Or.inl ⟨by rfl, ?_⟩) (by assumption) ?_
      rotate_left
      · (intro w_ hS_; (try dsimp only at hS_); go_simp; try with_reducible rfl)
      try simp only [Act.put, List.setIfInBounds_toArray, List.set_cons_zero, List.set_cons_succ]
      refine till_takeD (i := 6) (v := ?_) (some 19) rfl rfl (by kernel_rfl) (by kernel_rfl) (by kernel_rfl) (by kernel_rfl) (fun _ _ _ h => h) (Or.inl ⟨by rfl, ?_⟩) (by assumption) ?_
      rotate_left
      · (intro w_ hS_; (try dsimp only at hS_); go_simp; try with_reducible rfl)
      try simp only [Act.put, List.setIfInBounds_toArray, List.set_cons_zero, List.set_cons_succ]
      refine till_takeD (i := 7) (v := ?_) (some 20) rfl rfl (by kernel_rfl) (by kernel_rfl) (by kernel_rfl) (by kernel_rfl) (fun _ _ _ h => h) (Or.inl ⟨by rfl, ?_⟩) (by assumption) ?_
      rotate_left
      · (intro w_ hS_; (try dsimp only at hS_); go_simp; try with_reducible rfl)
      try simp only [Act.put, List.setIfInBounds_toArray, List.set_cons_zero, List.set_cons_succ]
      refine till_takeD (i := 8) (v := ?_) (some 21) rfl rfl (by kernel_rfl) (by kernel_rfl) (by kernel_rfl) (by kernel_rfl) (fun _ _ _ h => h) (Or.inl ⟨by rfl, ?_⟩) (by assumption) ?_
      rotate_left
      · (intro w_ hS_; (try dsimp only at hS_); go_simp; try with_reducible rfl)
      try simp only [Act.put, List.setIfInBounds_toArray, List.set_cons_zero, List.set_cons_succ]
      refine till_takeD (i := 9) (v := ?_) (some 22) rfl rfl (by kernel_rfl) (by kernel_rfl) (by kernel_rfl) (by kernel_rfl) (fun _ _ _ h => h) (Or.inl ⟨by rfl, ?_⟩) (by assumption) ?_
      rotate_left
      · (intro w_ hS_; (try dsimp only at hS_); go_simp; try with_reducible rfl)
      try simp only [Act.put, List.setIfInBounds_toArray, List.set_cons_zero, List.set_cons_succ]
      refine till_one (i := 10) (by kernel_rfl) rfl (fun K hK => ?_)
      go_simp
      go_at_call 52
      refine (posthouseref1_Folded.calls k x.f0 x.f1 ls _ HF.out).mono ?_
      rintro e w2 ⟨v, rfl, hR, hb⟩
      have lb0 := World.block_lt_of_cell? _ _ q0
      have lb1 := World.block_lt_of_cell? _ _ q1
      refine hK.out _ _ trivial (fun _ _ => ⟨(hb.cell lb0).trans q0, (hb.cell lb1).trans q1⟩) (fun hTV => ?_)
      clear hK K hTU
      have hTU := hTV (by kernel_rfl) (by decide)
      clear hTV
      try simp only [Act.put, List.setIfInBounds_toArray, List.set_cons_zero, List.set_cons_succ]
      refine till_one (i := 11) (by kernel_rfl) rfl (fun K hK => ?_)
      go_simp
      refine hK.out _ _ trivial (fun _ h => absurd rfl h) (fun _ => ?_)
      clear hK K hTU
      refine till_done (by kernel_rfl) ?_ _
      clear lb0 lb1
      obtain ⟨A2, c2, rfl⟩ := Kd.R_slice hR
      obtain ⟨-, hc2, hC⟩ := Kd.R_reads' hR
      have HB2 := Aside0.mk (below_step (below_drew1 HB1.out) hb)
      have HC := Aside0.mk hC
      have hln := hC.2.1
      clear hb hR hC HB1 q0 q1 d0 d1 d2
      go_wp2
      go_loopg [3, 6] ls.length (fun gg v3 v6 W => ∃ (j : Nat) (o2 : ByteArray), j ≤ ls.length ∧ ls.length - j ≤ gg ∧ v3 = .string o2 ∧ v6 = .int .i64 j ∧ Aside0 (joinLines o2 (ls.drop j) = joinLines out ls) ∧ Aside0 (Below w2.heap.size w2 W))
      case atStart => exact ⟨0, out, Nat.zero_le _, Nat.le_refl _, rfl, rfl, ⟨rfl⟩, ⟨Below.refl _ _⟩⟩
      case round =>
        obtain ⟨j, o2, hj, hgj, rfl, rfl, HJ, HBj⟩ := hrel
        by_cases hjl : j < ls.length
        · have hs := List.getElem?_eq_getElem hjl
          have hjo := HJ.out
          rw [List.drop_eq_getElem_cons hjl] at hjo
          obtain ⟨ad2, e2, y0⟩ := Kd.at_string HC.out (j : Int) (by omega) (by omega)
          cases e2
          replace y0 := (HBj.out.cell (World.block_lt_of_cell? w2 _ y0)).trans y0
          have es : rdOf ByteArray.empty ls (j : Int) = ls[j] := by rw [rdOf, Int.toNat_natCast, List.getD_eq_getElem?_getD, hs]; rfl
          rw [es, Int.toNat_natCast] at y0
          generalize ls[j] = s at y0 hjo
          have hjo2 : joinLines ((o2 ++ s) ++ (⟨#[13, 10]⟩ : ByteArray)) (ls.drop (j + 1)) = joinLines out ls := hjo
          have hz1 := joinLines_size (ls.drop (j + 1)) ((o2 ++ s) ++ (⟨#[13, 10]⟩ : ByteArray))
          rw [hjo2] at hz1
          have hz2 := posthouseref1_HeaderBytes.go_size _ _ _ HGO.out
          have hz3 := HS.out
          rw [ByteArray.size_append] at hz1
          have hz4 : (⟨#[13, 10]⟩ : ByteArray).size = 2 := rfl
          rw [hz4] at hz1
          have hz5 := ByteArray.size_append (a := o2) (b := s)
          have a1 : o2.size + s.size ≤ 9223372036854775807 := by omega
          have a2 : (o2 ++ s).size + 2 ≤ 9223372036854775807 := by omega
          have b1 : decide (o2.size + s.size ≤ 9223372036854775807) = true := decide_eq_true a1
          have b2 : decide ((o2 ++ s).size + 2 ≤ 9223372036854775807) = true := decide_eq_true a2
          have b3 : (9223372036854775807 < o2.size + s.size) = False := eq_false (Nat.not_lt.2 a1)
          have b4 : (9223372036854775807 < (o2 ++ s).size + 2) = False := eq_false (Nat.not_lt.2 a2)
          have a3 : o2.size + s.size + 2 ≤ 9223372036854775807 := by omega
          have b5 : decide (o2.size + s.size + 2 ≤ 9223372036854775807) = true := decide_eq_true a3
          have b6 : (9223372036854775807 < o2.size + s.size + 2) = False := eq_false (Nat.not_lt.2 a3)
          replace a3 := eq_true a3
          replace a1 := eq_true a1
          replace a2 := eq_true a2
          have d0 : decide ((j : Int) < (ls.length : Int)) = true := decide_eq_true (by omega)
          have d1 : (0 ≤ (j : Int)) = True := eq_true (by omega)
          have d2 : ((j : Int) < (ls.length : Int)) = True := eq_true (by omega)
          have HN := Aside0.mk hjo2
          clear hz1 hz2 hz3 hz4 hz5 hjo hjo2 hs es HJ
          go_wp2
          go_roundg (ls.length - (j + 1))
          case measure => omega
          case rel => exact ⟨j + 1, _, by omega, by omega, rfl, by go_num, HN, ⟨by first | exact HBj.out | exact below_drew1 HBj.out⟩⟩
        · obtain rfl : j = ls.length := by omega
          have hjo := HJ.out
          rw [List.drop_length] at hjo
          have HN := Aside0.mk (show posthouseref1_HeaderBytes.go k (l0.drop (i + 1)) o2 = some t from by rw [show o2 = joinLines out ls from hjo]; exact HGO.out)
          have d0 : decide ((ls.length : Int) < (ls.length : Int)) = false := decide_eq_false (by omega)
          have HBo := Aside0.mk (below_step HB2.out HBj.out)
          clear hjo HJ HGO HB2 HBj
          go_wp2
          go_roundg (l0.length - (i + 1))
          case measure => omega
          case rel => exact ⟨i + 1, o2, by omega, by omega, rfl, by go_num, HN, ⟨by first | exact HBo.out | exact below_drew1 HBo.out⟩⟩
    · obtain rfl : i = l0.length := by omega
      have hgo := HG.out
      rw [List.drop_length] at hgo
      obtain rfl : out = t := Option.some.inj hgo
      have a1 : out.size + 2 ≤ 9223372036854775807 := by have := HS.out; omega
      have b1 : decide (out.size + 2 ≤ 9223372036854775807) = true := decide_eq_true a1
      have b3 : (9223372036854775807 < out.size + 2) = False := eq_false (Nat.not_lt.2 a1)
      replace a1 := eq_true a1
      have d0 : decide ((l0.length : Int) < (l0.length : Int)) = false := decide_eq_false (by omega)
      have kb := fun W => print_bytes (P := Tryd.prog) 9 29 5 Tryd.underlying9 Tryd.underlying29 Tryd.underlying5 (out ++ (⟨#[13, 10]⟩ : ByteArray)) W
      clear hgo HG
      go_wp2
      have hz : (out ++ (⟨#[13, 10]⟩ : ByteArray)).size = (bytesOf (out ++ (⟨#[13, 10]⟩ : ByteArray))).length := (bytesOf_length _).symm
      have hz2 : (out ++ (⟨#[13, 10]⟩ : ByteArray)).size = out.size + 2 := ByteArray.size_append
      have hcap := grownCap_ge wr (out.size + 2) 0 5
      have hle := HS.out
      refine bodyPost_ret (v := .slice (some ⟨wr.heap.size, 0, none⟩) (out.size + 2) (grownCap wr (out.size + 2) 0 5)) (by simp [results, Tryd.results42, go_sem]) rfl ⟨_, _, _, by rw [← hz, hz2], ⟨Lib.bytesWorld_at_new wr _ _, below_size HB1.out, ?_, ?_, fun j hj => bytes_cells _ _ _ _ hj, by omega⟩, bytes_below HB1.out (below_size HB1.out) _ _⟩
      · rw [Lib.bytesCells, Array.size_append, Array.size_map, hz2, Array.size_replicate]
        show (out ++ (⟨#[13, 10]⟩ : ByteArray)).size + (grownCap wr (out.size + 2) 0 5 - (out.size + 2)) = grownCap wr (out.size + 2) 0 5
        omega
      · omega
theorem posthouseref1_HeaderBytes.calls (k : Nat) (A0 : Option Addr) (c0 : Nat) (l0 : List (S70)) (r : List Int) (w : World) (hr0 : Kd.C k70 w A0 l0.length l0) (hc0 : l0.length ≤ c0) (h : posthouseref1_HeaderBytes.f k l0 = some r) :
    Calls Tryd.prog 42 #[.slice A0 l0.length c0] w fun e w' => ∃ v0_ : Value, e = .returned (v0_) ∧ Kd.V (Kd.int .u8) 5 w' w.heap.size (fun k_ => (w.heap.size ≤ k_)) v0_ r ∧ Below w.heap.size w w' :=
  (posthouseref1_HeaderBytes.calls0 k A0 c0 l0 r w hr0 hc0 h).mono (by rintro e w' ⟨g, cap, cur, rfl, h, hb⟩; exact ⟨_, rfl, V_nums h.1 h.2.1 h.2.2.2.2.1 h.2.2.2.1 (by have := h.2.2.2.2.2; omega), hb⟩)


end Go.Proofs.YtbolikomoenmaaaDoor.P
end
/- Functions of this seat as Lean functions, and that the Go code comes to their answers: written by a program of this session's. -/
section
namespace Go.Proofs.YtbolikomoenmaaaDoor.P
open Go.RowKit Go.Proofs.YtbolikomoenmaaaDoorW.PrintWords Go.Proofs.YtbolikomoenmaaaDoorW.PrintLast Go.Proofs.YtbolikomoenmaaaDoorW.PrintMore
attribute [local go_sem] max2_int min2_int max_two min_two max_three min_three max_four min_four   -- for this text's walks alone
set_option linter.unusedVariables false
set_option linter.unusedSimpArgs false

/-! ### posthouseref8_MessageBytes: function 12 -/
def posthouseref8_MessageBytes.f (k : Nat) (l0_0 : List (S70)) (l0_1 : List Int) : Option Int := (posthouseref1_HeaderBytes.f k l0_0).bind fun b => if b.length + l0_1.length ≤ 140737488355328 then some ((b.length + l0_1.length : Nat) : Int) else none
theorem posthouseref8_MessageBytes.mono : ∀ a0 a1 k, LeO (posthouseref8_MessageBytes.f k a0 a1) (posthouseref8_MessageBytes.f (k + 1) a0 a1) := by
  intro a0 a1 k
  unfold posthouseref8_MessageBytes.f
  exact LeO.bind (posthouseref1_HeaderBytes.mono _ _) (fun _ => LeO.refl _)
theorem grown_cells {W : World} {g : Nat} : ∀ (vs : List Value) (o : Nat) (W1 : World), W.grownBy W1 (some g) → W.grownBy (W1.setCells g o vs) (some g)
  | [], _, _, h => h
  | v :: vs, o, W1, h => grown_cells vs (o + 1) _ ⟨h.os, h.tape, h.output, by rw [World.size_setCell]; exact h.size, fun k hk hne => (Below.heap_setCell W1 _ v k (fun he => hne (by rw [he]))).trans (h.block k hk hne)⟩
set_option maxRecDepth 100000 in
/-- append onto a list of bytes that bears a conversion's mark. -/
theorem append_marked {W : World} {base g cap m : Nat} {cur : Array Value} {xs ys : List Int} {A2 : Option Addr} (hm : MarkedRow W base g cap cur xs) (HR : Kd.C (Kd.int .u8) W A2 m ys) (hl : xs.length + m ≤ 140737488355328) (ty c2 : Nat) :
    ∃ A c w', (Builtin.append_ #[29, 29] ty #[.slice (some ⟨g, 0, none⟩) xs.length cap, .slice A2 m c2]).run Tryd.prog W = .ok (.slice A (xs.length + m) c) w' ∧ W.grownBy w' (some g) := by
  have ht := Tryd.underlying29
  obtain ⟨i, hi, hz⟩ := Option.map_eq_some_iff.1 (show (Tryd.prog.info? 5).map (fun i => (i.zero, i.size, i.bytes)) = some (some (.int .u8 0), 1, 1) from by kernel_rfl)
  simp only [Prod.mk.injEq] at hz
  obtain ⟨hz0, hz1, hz2⟩ := hz
  obtain ⟨hg, hbg, hcs, hxc, hx, hxs⟩ := hm
  have hgr : W.grownBy W (some g) := ⟨rfl, rfl, rfl, Nat.le_refl _, fun _ _ _ => rfl⟩
  have HR' : ReadsOf (Value.int .u8) (0 : Int) W A2 m ys := Kd.reads_of_C (d := (0 : Int)) HR
  have hml : ys.length = m := HR'.1
  rcases A2 with _ | ad
  · have h0 : m = 0 := by
      rcases Nat.eq_zero_or_pos m with h0 | h0
      · exact h0
      · obtain ⟨ad, h, _⟩ := HR'.2.2 h0
        cases h
    subst h0
    refine ⟨some ⟨g, 0, none⟩, cap, W, ?_, hgr⟩
    simp [Builtin.append_, run_underlying ht, sizeOf, typeInfo, hi, Builtin.lenOf, Builtin.firstCells, hxc, storeCells]
  · have hcells : ∀ j u, (nums .u8 ys)[j]? = some u → W.cell? (ad.add j) = some u := by
      intro j u hu
      have hj : j < ys.length := by
        rcases Nat.lt_or_ge j ys.length with h | h
        · exact h
        · simp [nums, List.getElem?_eq_none h] at hu
      obtain ⟨ad', h', hc⟩ := HR'.2.2 (by omega)
      rw [← Option.some.inj h'] at hc
      have := hc j (by omega)
      simp [nums, List.getElem?_eq_getElem hj] at hu
      subst hu
      rw [this]
      simp [List.getD_eq_getElem?_getD, List.getElem?_eq_getElem hj]
    have hnl : (nums .u8 ys).length = m := by simp [nums, hml]
    have hone : ∀ u ∈ nums .u8 ys, u.oneCell' = true := by intro u hu; simp only [nums, List.mem_map] at hu; obtain ⟨q, _, rfl⟩ := hu; rfl
    by_cases hroom : xs.length + m ≤ cap
    · have hf := run_firstCells_some (P := Tryd.prog) W 1 m ad m c2 (nums .u8 ys) (by rw [hnl, Nat.mul_one]) hcells
      have hst := run_storeCells_cells (P := Tryd.prog) g xs.length (nums .u8 ys) 0 W (fun j hj => by rw [cell_of_row W g _ cur _ _ hg, Array.getElem?_eq_getElem (by omega)]; rfl) (fun j hj => by simp [World.frozen?, hg]; omega) hone
      refine ⟨some ⟨g, 0, none⟩, cap, W.setCells g (xs.length + 0) (nums .u8 ys), ?_, grown_cells _ _ _ hgr⟩
      simp [Builtin.append_, run_underlying ht, sizeOf, typeInfo, hi, hz1, Builtin.lenOf, hroom, hf, Addr.add_lit, hst]
    · have hr := run_append_grow (P := Tryd.prog) W 29 ty 5 i (.int .u8 0) ht hi hz0 ⟨g, 0, none⟩ xs.length cap (nums .u8 xs) (by simp [nums, hz1]) (fun j u hu => by
        have hj : j < xs.length := by
          rcases Nat.lt_or_ge j xs.length with h | h
          · exact h
          · simp [nums, List.getElem?_eq_none h] at hu
        rw [Addr.add_lit, cell_of_row W g _ cur _ _ hg, Nat.zero_add, hx j hj]
        simp [nums, List.getElem?_eq_getElem hj] at hu
        rw [← hu]
        simp [List.getD_eq_getElem?_getD, List.getElem?_eq_getElem hj]) ad m c2 (nums .u8 ys) (by rw [hnl, hz1, Nat.mul_one]) hcells (by omega) (by omega) (growslice_fits (by omega) (by rw [hz2]; omega))
      exact ⟨_, _, _, hr, ⟨rfl, rfl, rfl, by simp, fun k hk _ => heap_alloc_old W.drew _ hk⟩⟩
set_option maxHeartbeats 2000000 in
set_option maxRecDepth 100000 in
theorem posthouseref2_MessageBytes.calls (k : Nat) (A0_0 : Option Addr) (c0_0 : Nat) (l0_0 : List (S70)) (A0_1 : Option Addr) (c0_1 : Nat) (l0_1 : List Int) (r : Int) (w : World) (hr0_0 : Kd.C k70 w A0_0 l0_0.length l0_0) (hc0_0 : l0_0.length ≤ c0_0) (hr0_1 : Kd.C (Kd.int .u8) w A0_1 l0_1.length l0_1) (hc0_1 : l0_1.length ≤ c0_1) (h : posthouseref8_MessageBytes.f k l0_0 l0_1 = some r) :
    Calls Tryd.prog 27 #[.agg #[.slice A0_0 l0_0.length c0_0, .slice A0_1 l0_1.length c0_1]] w fun e w' => ∃ A n c, e = .returned (.slice A n c) ∧ (n : Int) = r ∧ Below w.heap.size w w' := by
  unfold posthouseref8_MessageBytes.f at h
  obtain ⟨b, hb0, h⟩ := Option.bind_eq_some_iff.1 h
  split at h
  case isFalse => cases h
  case isTrue hlen =>
  cases h
  have hu := Tryd.underlying31
  have H0 := Aside0.mk hr0_0
  have H1 := Aside0.mk hr0_1
  have HH := Aside0.mk hb0
  have HLEN := Aside0.mk hlen
  clear hr0_0 hr0_1 hb0 hlen
  have HB := Aside0.mk (below_alloc (Below.refl w.heap.size w) (.cells #[.slice A0_0 l0_0.length c0_0, .slice A0_1 l0_1.length c0_1] 31))
  have HX := Aside0.mk (blk_at (w := w) (.cells #[.slice A0_0 l0_0.length c0_0, .slice A0_1 l0_1.length c0_1] 31))
  go_enter Tryd.func27, Tryd.ntmps27
  go_wp2_with fail
  refine region_till 6 (fun _ => True) (fun w' : World => w'.cell? ⟨w.heap.size, 0, none⟩ = some (.slice A0_0 l0_0.length c0_0) ∧ w'.cell? ⟨w.heap.size, 1, none⟩ = some (.slice A0_1 l0_1.length c0_1)) (by kernel_rfl) ⟨trivial, ⟨bc0 (blk_drew HX.out) 0, bc0 (blk_drew HX.out) 1⟩⟩ (fun hTU => ?_)
  replace HX := Aside0.mk (blk_drew HX.out)
  replace HB := Aside0.mk (below_drew1 HB.out)
  generalize (w.alloc (.cells #[.slice A0_0 l0_0.length c0_0, .slice A0_1 l0_1.length c0_1] 31)).drew = X1 at *
  refine till_takeD (i := 0) (v := ?_) (some 3) rfl rfl (by kernel_rfl) (by kernel_rfl) (by kernel_rfl) (by kernel_rfl) (fun _ _ _ h => h) (Or.inl ⟨by rfl, ?_⟩) (by assumption) ?_
  rotate_left
  · (intro w_ hS_; (try dsimp only at hS_); go_simp; try with_reducible rfl)
  try simp only [Act.put, List.setIfInBounds_toArray, List.set_cons_zero, List.set_cons_succ]
  refine till_takeD (i := 1) (v := ?_) (some 4) rfl rfl (by kernel_rfl) (by kernel_rfl) (by kernel_rfl) (by kernel_rfl) (fun _ _ _ h => h) (Or.inl ⟨by rfl, ?_⟩) (by assumption) ?_
  rotate_left
  · (intro w_ hS_; (try dsimp only at hS_); go_simp; try with_reducible rfl)
  try simp only [Act.put, List.setIfInBounds_toArray, List.set_cons_zero, List.set_cons_succ]
  refine till_takeD (i := 3) (v := ?_) (some 6) rfl rfl (by kernel_rfl) (by kernel_rfl) (by kernel_rfl) (by kernel_rfl) (fun _ _ _ h => h) (Or.inl ⟨by rfl, ?_⟩) (by assumption) ?_
  rotate_left
  · (intro w_ hS_; (try dsimp only at hS_); go_simp; try with_reducible rfl)
  try simp only [Act.put, List.setIfInBounds_toArray, List.set_cons_zero, List.set_cons_succ]
  refine till_takeD (i := 4) (v := ?_) (some 7) rfl rfl (by kernel_rfl) (by kernel_rfl) (by kernel_rfl) (by kernel_rfl) (fun _ _ _ h => h) (Or.inl ⟨by rfl, ?_⟩) (by assumption) ?_
  rotate_left
  · (intro w_ hS_; (try dsimp only at hS_); go_simp; try with_reducible rfl)
  try simp only [Act.put, List.setIfInBounds_toArray, List.set_cons_zero, List.set_cons_succ]
  refine till_one (i := 2) (by kernel_rfl) rfl (fun K hK => ?_)
  go_simp
  go_at_call 42
  refine (posthouseref1_HeaderBytes.calls0 k A0_0 c0_0 l0_0 b _ (Kd.C_below H0.out HB.out) hc0_0 HH.out).mono ?_
  rintro e x2 ⟨g, cap, cur, rfl, hm, hb⟩
  have HM := Aside0.mk hm
  have hlw := blk_lt HX.out
  have HS := Aside0.mk (show w.heap.size < X1.heap.size from blk_lt HX.out)
  clear hm
  replace HX := Aside0.mk (blk_call HX.out hb)
  replace HB := Aside0.mk (below_step HB.out hb)
  clear hb
  have HA := append_marked HM.out (Kd.C_below H1.out HB.out) HLEN.out 29 c0_1
  obtain ⟨A, c, w3, hr, hg⟩ := HA
  have HG := Aside0.mk hg
  clear hg
  refine hK.out _ _ trivial (fun _ _ => ⟨bc0 HX.out 0, bc0 HX.out 1⟩) (fun hTV => ?_)
  clear hK K hTU
  have hTU := hTV (by kernel_rfl) (by decide)
  clear hTV
  try simp only [Act.put, List.setIfInBounds_toArray, List.set_cons_zero, List.set_cons_succ]
  refine till_one (i := 5) (by kernel_rfl) rfl (fun K hK => ?_)
  rw [if_pos (by kernel_rfl)]
  refine Lib.wp_append_run _ (.tmp 5) (.tmp 7) 29 29 rfl _ _ rfl rfl _ _ hr ?_
  have hgg := HM.out.2.1
  have hle := HS.out
  have hlx := blk_lt HX.out
  replace HX := Aside0.mk ((HG.out.block w.heap.size hlx (fun he => by have := Option.some.inj he; omega)).trans HX.out)
  replace HB := Aside0.mk (HB.out.grown HG.out (below_size HB.out) (fun k_ hk_ => by have := Option.some.inj hk_; omega))
  refine hK.out _ _ trivial (fun _ _ => ⟨bc0 HX.out 0, bc0 HX.out 1⟩) (fun hTV => ?_)
  clear hK K hTU
  have hTU := hTV (by kernel_rfl) (by decide)
  clear hTV
  try simp only [Act.put, List.setIfInBounds_toArray, List.set_cons_zero, List.set_cons_succ]
  refine till_one (i := 6) (by kernel_rfl) rfl (fun K hK => ?_)
  go_simp
  refine hK.out _ _ trivial (fun _ h => absurd rfl h) (fun _ => ?_)
  clear hK K hTU
  refine till_done (by kernel_rfl) ?_ _
  go_wp2
  go_ret
  exact ⟨_, _, _, rfl, rfl, HB.out⟩
set_option maxHeartbeats 2000000 in
set_option maxRecDepth 100000 in
theorem posthouseref8_MessageBytes.calls (k : Nat) (A0_0 : Option Addr) (c0_0 : Nat) (l0_0 : List (S70)) (A0_1 : Option Addr) (c0_1 : Nat) (l0_1 : List Int) (r : Int) (w : World) (hr0_0 : Kd.C k70 w A0_0 l0_0.length l0_0) (hc0_0 : l0_0.length ≤ c0_0) (hr0_1 : Kd.C (Kd.int .u8) w A0_1 l0_1.length l0_1) (hc0_1 : l0_1.length ≤ c0_1) (h : posthouseref8_MessageBytes.f k l0_0 l0_1 = some r) :
    Calls Tryd.prog 12 #[.agg #[.slice A0_0 l0_0.length c0_0, .slice A0_1 l0_1.length c0_1]] w fun e w' => ∃ A n c, e = .returned (.slice A n c) ∧ (n : Int) = r ∧ Below w.heap.size w w' := by
  have hu := Tryd.underlying31
  have H0 := Aside0.mk hr0_0
  have H1 := Aside0.mk hr0_1
  have HH := Aside0.mk h
  clear hr0_0 hr0_1 h
  have HB := Aside0.mk (below_alloc (Below.refl w.heap.size w) (.cells #[.slice A0_0 l0_0.length c0_0, .slice A0_1 l0_1.length c0_1] 31))
  go_enter Tryd.func12, Tryd.ntmps12
  go_wp2_with (first | (go_at_call 27; refine (posthouseref2_MessageBytes.calls k A0_0 c0_0 l0_0 A0_1 c0_1 l0_1 r _ (Kd.C_below H0.out HB.out) hc0_0 (Kd.C_below H1.out HB.out) hc0_1 HH.out).mono ?_; rintro e w2 ⟨A, n, c, rfl, hn, hb⟩))
  go_ret
  exact ⟨_, _, _, rfl, hn, below_step HB.out hb⟩


end Go.Proofs.YtbolikomoenmaaaDoor.P
end
/- Functions of this seat as Lean functions, and that the Go code comes to their answers: written by a program of this session's. -/
section
namespace Go.Proofs.YtbolikomoenmaaaDoor.P
open Go.RowKit Go.Proofs.YtbolikomoenmaaaDoorW.PrintWords Go.Proofs.YtbolikomoenmaaaDoorW.PrintLast Go.Proofs.YtbolikomoenmaaaDoorW.PrintMore
attribute [local go_sem] max2_int min2_int max_two min_two max_three min_three max_four min_four   -- for this text's walks alone
set_option linter.unusedVariables false
set_option linter.unusedSimpArgs false

/-! ### posthouselaw8_letter: function 13 -/
def posthouselaw8_letter.f (a0 : ByteArray) : Option ((List (S70)) × List Int) := some ([⟨⟨#[83, 117, 98, 106, 101, 99, 116]⟩, a0⟩], [120, 13, 10])
set_option maxRecDepth 100000 in
theorem posthouselaw8_letter.calls (a0 : ByteArray) (r1 : List (S70)) (r2 : List Int) (w : World) (h : posthouselaw8_letter.f a0 = some (r1, r2)) :
    Calls Tryd.prog 13 #[.string a0] w fun e w' => ∃ v0_ v1_ : Value, e = .returned (.agg #[v0_, v1_]) ∧ Kd.V k70 70 w' w.heap.size (fun k_ => (w.heap.size ≤ k_)) v0_ r1 ∧ Kd.V (Kd.int .u8) 5 w' w.heap.size (fun k_ => (w.heap.size ≤ k_)) v1_ r2 ∧ Below w.heap.size w w' := by
  obtain ⟨rfl, rfl⟩ : [⟨⟨#[83, 117, 98, 106, 101, 99, 116]⟩, a0⟩] = r1 ∧ [120, 13, 10] = r2 := by simpa [posthouselaw8_letter.f] using h
  have hu := Tryd.underlying31
  have hu2 := Tryd.underlying70
  have kc : ∀ (W : World) (o1 o2 : Obj) (C : Array Value) (n c : Nat), Sem.run Tryd.prog (convert 29 29 (.slice (some ⟨W.heap.size + 1 + 1, 0, none⟩) n c)) (((W.alloc o1).alloc o2).alloc (.cells C 5)) = .ok (.slice (some ⟨W.heap.size + 1 + 1, 0, none⟩) n c) (((W.alloc o1).alloc o2).alloc (.cells C 5 (C.size, C.size + 1))) := fun W o1 o2 C n c => by
    have := Lib.run_convert_bytes_const (P := Tryd.prog) ((W.alloc o1).alloc o2) 29 5 C n c Tryd.underlying29 Tryd.underlying5
    simpa using this
  go_enter Tryd.func13, Tryd.ntmps13
  go_wp2
  refine bodyPost_ret (v := .agg #[.slice (some ⟨w.heap.size + 1, 0, none⟩) 1 1, .slice (some ⟨w.heap.size + 1 + 1, 0, none⟩) 3 3]) (by simp [results, Tryd.results13, go_sem]) rfl ⟨_, _, rfl, ?_, ?_, ?_⟩
  · exact V_one (blk_later (blk_at1 _ _) _) rfl (by omega) rfl (k70_mkF _ _ _) (Nat.le_refl _)
  · exact V_nums (xs := [120, 13, 10]) (blk_at2 _ _ _) (by omega) (fun j hj => by match j, hj with | 0, _ => rfl | 1, _ => rfl | 2, _ => rfl) (Nat.le_refl _) (by simp)
  · exact below_alloc (below_alloc (below_alloc (Below.refl _ _) _) _) _


end Go.Proofs.YtbolikomoenmaaaDoor.P
end
/- Functions of this seat as Lean functions, and that the Go code comes to their answers: written by a program of this session's. -/
section
namespace Go.Proofs.YtbolikomoenmaaaDoor.P
open Go.RowKit Go.Proofs.YtbolikomoenmaaaDoorW.PrintWords Go.Proofs.YtbolikomoenmaaaDoorW.PrintLast Go.Proofs.YtbolikomoenmaaaDoorW.PrintMore
attribute [local go_sem] max2_int min2_int max_two min_two max_three min_three max_four min_four   -- for this text's walks alone
set_option linter.unusedVariables false
set_option linter.unusedSimpArgs false

/-! ### posthouselaw8_three: function 14 -/
def posthouselaw8_three.f : Option (Int × Int × Int × (List (S68)) × (List (S72))) := (posthouselaw8_letter.f (⟨#[98]⟩ : ByteArray)).bind fun b => some (3, 5, 0, [⟨2, 3, 1, 9, ⟨b.1, b.2⟩⟩], [⟨1, 4⟩])
set_option maxRecDepth 100000 in
theorem posthouselaw8_three.calls (r1 : Int) (r2 : Int) (r3 : Int) (r4 : List (S68)) (r5 : List (S72)) (w : World) (h : posthouselaw8_three.f = some (r1, r2, r3, r4, r5)) :
    Calls Tryd.prog 14 #[] w fun e w' => ∃ v3_ v4_ : Value, e = .returned (.agg #[.int .i64 r1, .int .i64 r2, .int .i64 r3, v3_, v4_]) ∧ Kd.V k68 68 w' w.heap.size (fun k_ => (w.heap.size ≤ k_)) v3_ r4 ∧ Kd.V k72 72 w' w.heap.size (fun k_ => (w.heap.size ≤ k_)) v4_ r5 ∧ Below w.heap.size w w' := by
  obtain ⟨⟨t1, t2⟩, ht, h⟩ := Option.bind_eq_some_iff.1 h
  simp only [Option.some.injEq, Prod.mk.injEq] at h
  obtain ⟨rfl, rfl, rfl, rfl, rfl⟩ := h
  have hu := Tryd.underlying25
  have hu2 := Tryd.underlying68
  have hu3 := Tryd.underlying72
  go_enter Tryd.func14, Tryd.ntmps14
  go_wp2_with fail
  refine (posthouselaw8_letter.calls _ t1 t2 _ ht).mono ?_
  rintro e w1 ⟨_, _, rfl, ⟨A0, c0, rfl, l0, f0⟩, ⟨A1, c1, rfl, l1, f1⟩, hb⟩
  have hB := blk_call (blk_at _) hb
  have hz := hb.size
  simp only [World.size_alloc] at hz f0 f1
  have kc := bc2 hB
  have kf := bf2 hB
  replace hB := Aside0.mk hB
  replace f0 := Aside0.mk f0
  replace f1 := Aside0.mk f1
  replace hb := Aside0.mk hb
  go_wp2
  have hlt : w.heap.size ≠ w1.heap.size := by omega
  have hlt2 : w.heap.size ≠ w1.heap.size + 1 := by omega
  refine bodyPost_ret (v := .agg #[.int .i64 3, .int .i64 5, .int .i64 0, .slice (some ⟨w1.heap.size, 0, none⟩) 1 1, .slice (some ⟨w1.heap.size + 1, 0, none⟩) 1 1]) (by simp [results, Tryd.results14, go_sem, kc]) rfl ⟨_, _, rfl, ?_, ?_, ?_⟩
  · have hk : ∀ k, w.heap.size + 1 ≤ k → k ≠ w.heap.size := fun k hk => by omega
    exact V_one (blk_far (blk_far (blk_far (blk_far (blk_far (blk_later (blk_at _) _) hlt.symm _) hlt.symm _) hlt.symm _) hlt.symm _) hlt.symm _) rfl (by omega) rfl (k68_mkF _ _ (⟨2, 3, 1, 9, ⟨t1, t2⟩⟩ : S68) l0 (Kd.F_mono (Kd.F_far (Kd.F_far (Kd.F_far (Kd.F_far (Kd.F_far (Kd.F_alloc (Kd.F_alloc f0.out _) _) hk _) hk _) hk _) hk _) hk _) (fun k hk => by omega)) l1 (Kd.F_mono (Kd.F_far (Kd.F_far (Kd.F_far (Kd.F_far (Kd.F_far (Kd.F_alloc (Kd.F_alloc f1.out _) _) hk _) hk _) hk _) hk _) hk _) (fun k hk => by omega))) (Nat.le_refl _)
  · exact V_one (blk_far (blk_far (blk_far (blk_far (blk_far (blk_at1 _ _) hlt2.symm _) hlt2.symm _) hlt2.symm _) hlt2.symm _) hlt2.symm _) rfl (by omega) rfl (k72_mkF _ _ _) (Nat.le_refl _)
  · have := below_then (below_alloc (Below.refl _ w) _) (by simp) hb.out
    exact (below_set (below_set (below_set (below_set (below_set (below_alloc (below_alloc this _) _) (Nat.le_refl _)) (Nat.le_refl _)) (Nat.le_refl _)) (Nat.le_refl _)) (Nat.le_refl _))


end Go.Proofs.YtbolikomoenmaaaDoor.P
end
