/- Functions of this seat as Lean functions, and that the Go code comes to their answers: written by a program of this session's. -/
import Derived.Test.YtbnmddippoiabaaDoorO6x10
namespace Go.Proofs.YtbnmddippoiabaaDoor.P
open Go.RowKit Go.Proofs.YtbnmddippoiabaaDoorW.PrintWords Go.Proofs.YtbnmddippoiabaaDoorW.PrintLast Go.Proofs.YtbnmddippoiabaaDoorW.PrintMore
attribute [local go_sem] max2_int min2_int max_two min_two max_three min_three max_four min_four   -- for this text's walks alone
set_option linter.unusedVariables false
set_option linter.unusedSimpArgs false

/-! ### api_Stored: function 48 -/
/-- A cell behind a row's length is written: the row reads as it did. -/
theorem N_past {α : Type} {d : Kd α} {e : Nat} {W : World} {base g n cap o : Nat} {ok : Nat → Prop} {xs : List α} (h : Kd.N d e W base ok (.slice (some ⟨g, 0, none⟩) n cap) xs) (ho : n * d.sz ≤ o) (u : Value) : Kd.N d e (W.setCell ⟨g, o, none⟩ u) base ok (.slice (some ⟨g, 0, none⟩) n cap) xs := by
  obtain ⟨h0, rows, hl, ⟨h1, inner, ⟨hi, hw⟩, hr⟩, hf⟩ := h
  have hgo : some g = (Value.slice (some ⟨g, 0, none⟩) n cap).ownBlock := by simp [Value.ownBlock]
  have hnl : n = rows.length := by
    rcases hw with ⟨he, -⟩ | ⟨g', cap', cur, he, -⟩
    · cases he
    · injection he
  refine ⟨h0, rows, hl, ⟨h1, inner, ⟨hi, ?_⟩, hr⟩, fun j x c hx hc => Kd.FK_step (hf j x c hx hc) (fun k hk _ => Below.heap_setCell W _ u k (fun he => hk.2 (by rw [← hgo, he])))⟩
  rcases hw with ⟨he, -⟩ | ⟨g', cap', cur, he, hb, hh, h2, h3, h4, h5⟩
  · cases he
  · injection he with ha _ hc
    injection ha with ha
    injection ha with hg
    subst hg hc
    refine .inr ⟨g, cap, cur.setIfInBounds o u, by rw [hnl], hb, blk_set hh o u, h2, h3, by simpa using h4, ?_⟩
    rw [← h5]
    have ho' : rows.length * d.sz ≤ o := by rw [← hnl]; exact ho
    apply List.ext_getElem?
    intro j
    rw [List.getElem?_take, List.getElem?_take]
    split
    · rename_i hj
      rw [Array.getElem?_toList, Array.getElem?_toList, Array.getElem?_setIfInBounds_ne (show o ≠ j from fun he => absurd hj (by rw [← he]; exact Nat.not_lt.2 ho'))]
    · rfl
theorem N_room {α : Type} {d : Kd α} {e : Nat} {W : World} {base g n cap : Nat} {ok : Nat → Prop} {xs : List α} (h : Kd.N d e W base ok (.slice (some ⟨g, 0, none⟩) n cap) xs) : ∃ cur, W.heap[g]? = some (.cells cur e (0, 0)) ∧ cur.size = cap * d.sz := by
  obtain ⟨h0, rows, hl, ⟨h1, inner, ⟨hi, hw⟩, hr⟩, hf⟩ := h
  rcases hw with ⟨he, -⟩ | ⟨g', cap', cur, he, hb, hh, h2, h3, h4, h5⟩
  · cases he
  · injection he with ha _ hc
    injection ha with ha
    injection ha with hg
    subst hg hc
    exact ⟨cur, hh, h4⟩
theorem grown_set {a w : World} {b : Nat} (h : a.grownBy w (some b)) (i : Nat) (v : Value) : a.grownBy (w.setCell ⟨b, i, none⟩ v) (some b) :=
  ⟨h.os, h.tape, h.output, by rw [World.size_setCell]; exact h.size, fun k hk hne => (Below.heap_setCell w _ v k (fun he => hne (by rw [he]))).trans (h.block k hk hne)⟩
set_option maxHeartbeats 2000000 in
set_option maxRecDepth 100000 in
theorem slices_Delete_Stored.calls (ok : Nat → Prop) (g m c i base : Nat) (l : List (S55)) (w : World) (HN : Kd.N k55 55 w base ok (.slice (some ⟨g, 0, none⟩) (m + 1) c) l) (hi : i ≤ m) :
    Calls Tryd.prog 48 #[.slice (some ⟨g, 0, none⟩) (m + 1 : Nat) c, .int .i64 (i : Int), .int .i64 ((i : Int) + 1)] w fun e w' => e = .returned (.slice (some ⟨g, 0, none⟩) m c) ∧ Kd.N k55 55 w' base ok (.slice (some ⟨g, 0, none⟩) m c) (l.eraseIdx i) ∧ w.grownBy w' (some g) := by
  have hu := Tryd.underlying22
  obtain ⟨hl, hc, hC⟩ := Kd.N_reads' HN
  have h63 := hC.2.1
  rw [← hl] at h63
  have H := Aside0.mk HN
  clear HN hC hl
  have i1 : (i : Int) ≤ (i : Int) + 1 := by omega
  have i2 : (i : Int) + 1 ≤ ((m + 1 : Nat) : Int) := by omega
  have i3 : ((i : Int) == (i : Int) + 1) = false := beq_eq_false_iff_ne.2 (by omega)
  go_enter Tryd.func48, Tryd.ntmps48
  go_wp2
  have info : (Tryd.prog.info? 55).map (·.size) = some 6 := by kernel_rfl
  have mixed : Tryd.prog.follows Departure.mixedOrders = true := by kernel_rfl
  have i4 : 0 ≤ (i : Int) + 1 := by omega
  have hic : i ≤ c := by omega
  have hjc : i + 1 ≤ c := by omega
  have hgw : g < w.heap.size ∧ base ≤ g := ⟨Kd.N_lt H.out g (by simp [Value.ownBlock]), Kd.N_base H.out g (by simp [Value.ownBlock])⟩
  go_region_law_o (refine Kd.N_delete_step k55 (w0 := w.drew) base rfl (.tmp 22) (.tmp 25) 22 55 rfl hu info (g := g) (n := m + 1) (c := c) (k := i) (m := m - i) (c2 := c - (i + 1)) (A := if c = i + 1 then some ⟨g, 0, none⟩ else some ⟨g, (i + 1) * 6, none⟩) (xs := l) (ok := ok) ?e1 ?e2 ?e4 ?e3 (Kd.N_drew H.out) (by omega) (Below.refl _ _) (by show base ≤ w.heap.size; omega) ?_; (case e1 => simp [Act.eval, Act.put]); (case e2 => simp [Act.eval, Act.put]); (case e3 => omega); (case e4 => simp [add_at, show k55.sz = 6 from rfl]; done); intro w1 hn hb hg)
  obtain ⟨cur, hcur, hsz⟩ := N_room hn
  replace hsz : cur.size = c * 6 := hsz
  have hsome : ∀ j, j < 6 → (w1.cell? ⟨g, m * 6 + j, none⟩).isSome = true := fun j hj => by rw [blk_cell hcur, Array.getElem?_eq_getElem (show m * 6 + j < cur.size by omega)]; rfl
  have hfrz : ∀ j, j < 6 → w1.frozen? ⟨g, m * 6 + j, none⟩ = false := fun j _ => blk_frozen hcur _
  have hcl : ∀ ty n' c', n' = 1 → (Builtin.clear_ #[22] ty #[.slice (some ⟨g, m * 6, none⟩) n' c']).run Tryd.prog w1 = .ok (.tuple #[]) (w1.setCells g (m * 6) [.int .i64 0, .int .i64 0, .int .i64 0, .int .i64 0, .slice none 0 0, .slice none 0 0]) := by
    intro ty n' c' hn'
    subst hn'
    have hst := run_storeCells_cells (P := Tryd.prog) g (m * 6) [.int .i64 0, .int .i64 0, .int .i64 0, .int .i64 0, .slice none 0 0, .slice none 0 0] 0 w1 (by simpa using hsome) (by simpa using hfrz) (by simp [Value.oneCell'])
    simp only [Nat.add_zero] at hst
    have hzv : ∀ wx, (zeroValue 55).run Tryd.prog wx = .ok (.agg #[.int .i64 0, .int .i64 0, .int .i64 0, .int .i64 0, .slice none 0 0, .slice none 0 0]) wx := fun wx => by kernel_rfl
    have hzc : (Builtin.zeroCells (Value.agg #[.int .i64 0, .int .i64 0, .int .i64 0, .int .i64 0, .slice none 0 0, .slice none 0 0]).cells 1).toList = [.int .i64 0, .int .i64 0, .int .i64 0, .int .i64 0, .slice none 0 0, .slice none 0 0] := by kernel_rfl
    simp [Builtin.clear_, run_underlying hu, hzv, hzc, hst]
  have hcl1 := fun ty c' => hcl ty (m + 1 - m) c' (by omega)
  have HN1 := Aside0.mk hn
  have HG1 : Aside0 (w.grownBy w1 (some g)) := ⟨⟨hg.os, hg.tape, hg.output, hg.size, hg.block⟩⟩
  clear hn hb hg hcur hsz hsome hfrz
  go_wp2
  all_goals
    try subst c
    go_ret
    exact ⟨rfl, N_past (o := m * 6 + 5) (N_past (o := m * 6 + 4) (N_past (o := m * 6 + 3) (N_past (o := m * 6 + 2) (N_past (o := m * 6 + 1) (N_past (o := m * 6) HN1.out (Nat.le_refl _) _) (Nat.le_add_right _ _) _) (Nat.le_add_right _ _) _) (Nat.le_add_right _ _) _) (Nat.le_add_right _ _) _) (Nat.le_add_right _ _) _, grown_set (grown_set (grown_set (grown_set (grown_set (grown_set HG1.out (m * 6) _) (m * 6 + 1) _) (m * 6 + 2) _) (m * 6 + 3) _) (m * 6 + 4) _) (m * 6 + 5) _⟩


end Go.Proofs.YtbnmddippoiabaaDoor.P
