/- Functions of this seat as Lean functions, and that the Go code comes to their answers: written by a program of this session's. -/
import Derived.Test.YtbnmddippoiabaaDoorO6x10
import Derived.Test.YtbnmddippoiabaaDoorO6x19
import Derived.Test.YtbnmddippoiabaaDoorO6x22
import Derived.Test.YtbnmddippoiabaaDoorO6x23
namespace Go.Proofs.YtbnmddippoiabaaDoor.P
open Go.RowKit Go.Proofs.YtbnmddippoiabaaDoorW.PrintWords Go.Proofs.YtbnmddippoiabaaDoorW.PrintLast Go.Proofs.YtbnmddippoiabaaDoorW.PrintMore
attribute [local go_sem] max2_int min2_int max_two min_two max_three min_three max_four min_four   -- for this text's walks alone
set_option linter.unusedVariables false
set_option linter.unusedSimpArgs false

/-! ### mailbox_Do: function 27 -/
theorem below_less {B B2 : Nat} {w W : World} (h : Below B w W) (hB : B2 ≤ B) : Below B2 w W := ⟨h.os, h.tape, h.output, h.size, fun i hi => h.block i (Nat.lt_of_lt_of_le hi hB)⟩
theorem below_put {B g j : Nat} {w W : World} {v : Value} (h : Below B w W) (hg : B ≤ g) : Below B w (W.setCell ⟨g, j, none⟩ v) := h.setCell (p := ⟨g, j, none⟩) hg _
theorem drew_alloc (w : World) (o : Obj) : (w.alloc o).drew = w.drew.alloc o := rfl
/-- The row of what is gone, in a block of the call's own, from any place of it on. -/
def GN (W : World) (base : Nat) (ok : Nat → Prop) (v : Value) (xs : List (S75)) : Prop :=
  (v = .slice none 0 0 ∧ xs = []) ∨ ∃ (g o c : Nat) (cur : Array Value), v = .slice (some ⟨g, o, none⟩) xs.length c ∧ base ≤ g ∧ ok g ∧ W.heap[g]? = some (.cells cur 75 (0, 0)) ∧ xs.length ≤ c ∧ c ≤ maxLen ∧ o + c * 2 ≤ cur.size ∧ ∀ (j : Nat) x, xs[j]? = some x → cur[o + j * 2]? = some (.int .i64 x.f0) ∧ cur[o + j * 2 + 1]? = some (.int .i64 x.f1)
section
variable {W W' : World} {base : Nat} {ok ok' : Nat → Prop} {v : Value} {xs : List (S75)}
theorem GN_own (h : GN W base ok v xs) : ∀ k, v.ownBlock = some k → base ≤ k ∧ ok k ∧ k < W.heap.size := by
  intro k hk
  rcases h with ⟨rfl, -⟩ | ⟨g, o, c, cur, rfl, hg, hok, hb, -⟩
  · cases hk
  · obtain rfl : g = k := Option.some.inj hk
    exact ⟨hg, hok, blk_lt hb⟩
theorem GN_at (h : GN W base ok v xs) (hm : ∀ k, v.ownBlock = some k → k < W.heap.size → W'.heap[k]? = W.heap[k]?) : GN W' base ok v xs := by
  rcases h with h | ⟨g, o, c, cur, rfl, hg, hok, hb, hr⟩
  · exact .inl h
  · exact .inr ⟨g, o, c, cur, rfl, hg, hok, (hm g rfl (blk_lt hb)).trans hb, hr⟩
theorem GN_step (h : GN W base ok v xs) (hm : ∀ k, ok k → k < W.heap.size → W'.heap[k]? = W.heap[k]?) : GN W' base ok v xs := GN_at h (fun k hk hlt => hm k (GN_own h k hk).2.1 hlt)
theorem GN_ok (h : GN W base ok v xs) (h' : ∀ k, v.ownBlock = some k → ok' k) : GN W base ok' v xs := by
  rcases h with h | ⟨g, o, c, cur, rfl, hg, -, hr⟩
  · exact .inl h
  · exact .inr ⟨g, o, c, cur, rfl, hg, h' g rfl, hr⟩
theorem GN_mono (h : GN W base ok v xs) (h' : ∀ k, ok k → ok' k) : GN W base ok' v xs := GN_ok h (fun k hk => h' k (GN_own h k hk).2.1)
theorem GN_below (h : GN W base ok v xs) (hb : Below W.heap.size W W') : GN W' base ok v xs := GN_step h (fun k _ hk => hb.block k hk)
theorem GN_alloc (h : GN W base ok v xs) (o : Obj) : GN (W.alloc o) base ok v xs := GN_below h (below_alloc (Below.refl _ _) o)
theorem GN_drew (h : GN W base ok v xs) : GN W.drew base ok v xs := GN_below h (below_drew (Below.refl _ _))
theorem GN_drewN (h : GN W base ok v xs) (m : Nat) : GN (W.drewN m) base ok v xs := GN_below h (pw_below_drewN (Below.refl _ _) m)
theorem GN_grown (h : GN W base ok v xs) {row : Option Nat} (hg : W.grownBy W' row) (hok : ∀ k, ok k → some k ≠ row) : GN W' base ok v xs := GN_step h (fun k ho hk => hg.block k hk (hok k ho))
theorem GN_far (h : GN W base ok v xs) {p : Addr} (hok : ∀ k, ok k → k ≠ p.block) (u : Value) : GN (W.setCell p u) base ok v xs := GN_step h (fun k ho _ => Below.heap_setCell W p u k (hok k ho))
theorem GN_slice (h : GN W base ok v xs) : ∃ A c, v = .slice A xs.length c := by
  rcases h with ⟨rfl, rfl⟩ | ⟨g, o, c, cur, rfl, -⟩
  · exact ⟨none, 0, rfl⟩
  · exact ⟨_, c, rfl⟩
theorem GN_reads {A : Option Addr} {c : Nat} (h : GN W base ok (.slice A xs.length c) xs) : xs.length ≤ c ∧ Kd.C k75 W A xs.length xs := by
  rcases h with ⟨h0, h1⟩ | ⟨g, o, c', cur, h0, -, -, hb, hc, hm, hs, he⟩
  · injection h0 with h2 h3 h4
    subst h2
    have hx : xs = [] := h1
    subst hx
    exact ⟨Nat.zero_le _, Kd.C_nil _ _⟩
  · injection h0 with h2 h3 h4
    subst h2
    subst h4
    refine ⟨hc, rfl, by unfold maxLen at hm; omega, fun _ => ⟨_, rfl, fun j p hj => ?_⟩⟩
    refine ⟨[.int .i64 p.f0, .int .i64 p.f1], rfl, k75_mk W p, fun i u hu => ?_⟩
    obtain ⟨e0, e1⟩ := he j p hj
    rw [show ((⟨g, o, none⟩ : Addr).add (j * Kd.sz k75 + i)) = ⟨g, o + (j * 2 + i), none⟩ from Addr.add_lit _ _ _, cell_of_row W g _ cur _ _ hb]
    match i, hu with
    | 0, hu => rw [show o + (j * 2 + 0) = o + j * 2 by omega, e0]; exact hu
    | 1, hu => rw [show o + (j * 2 + 1) = o + j * 2 + 1 by omega, e1]; exact hu
theorem GN_V {e base' : Nat} (h : GN W base ok v xs) : Kd.V k75 e W base' ok v xs := by
  obtain ⟨A, c, rfl⟩ := GN_slice h
  exact ⟨A, c, rfl, (GN_reads h).1, fun W' hW => (GN_reads (GN_step h hW)).2⟩
theorem N_GN (h : Kd.N k75 75 W base ok v xs) : GN W base ok v xs := by
  obtain ⟨A, c, rfl⟩ := Kd.N_slice h
  obtain ⟨h0, rows, hl, ⟨h1, inner, ⟨hi, hw⟩, hr⟩, hf⟩ := id h
  rcases hw with ⟨he, hn⟩ | ⟨g, cap, cur, he, hbg, hb, hnc, hcm, hcs, htake⟩
  · injection he with h2 h3 h4
    subst h2 h4
    exact .inl ⟨by rw [h3], List.eq_nil_of_length_eq_zero h3⟩
  · injection he with h2 h3 h4
    subst h2 h4
    refine .inr ⟨g, 0, c, cur, rfl, hbg, h0 g rfl, hb, by omega, hcm, by have h9 : cur.size = c * 2 := hcs; omega, fun j x hx => ?_⟩
    have hj := (List.getElem?_eq_some_iff.1 hx).1
    obtain ⟨cs, hcl, hk, hcell, -⟩ := Kd.N_elem h z75 (j : Int) (by omega) (by omega)
    rw [Int.toNat_natCast, show xs.getD j z75 = x from by rw [List.getD_eq_getElem?_getD, hx]; rfl] at hk
    rw [Int.toNat_natCast] at hcell
    obtain rfl := k75_open (Kd.FK_now hk)
    have e0 := hcell 0 _ rfl
    have e1 := hcell 1 _ rfl
    rw [cell_of_row W g _ cur _ _ hb] at e0 e1
    exact ⟨by rw [Nat.zero_add]; exact e0, by rw [Nat.zero_add]; exact e1⟩
theorem GN_form (h : GN W base ok v xs) (hp : 0 < xs.length) : ∃ g o c, v = .slice (some ⟨g, o, none⟩) xs.length c ∧ base ≤ g ∧ ok g ∧ g < W.heap.size := by
  rcases h with ⟨-, rfl⟩ | ⟨g, o, c, cur, rfl, hg, hok, hb, -⟩
  · cases hp
  · exact ⟨g, o, c, rfl, hg, hok, blk_lt hb⟩
theorem GN_cells {g o c n : Nat} (h : GN W base ok (.slice (some ⟨g, o, none⟩) n c) xs) {j : Nat} {x : S75} (hx : xs[j]? = some x) : W.cell? ⟨g, o + j * 2, none⟩ = some (.int .i64 x.f0) ∧ W.cell? ⟨g, o + j * 2 + 1, none⟩ = some (.int .i64 x.f1) := by
  rcases h with ⟨h0, -⟩ | ⟨g', o', c', cur, h0, -, -, hb, -, -, -, he⟩
  · cases h0
  · injection h0 with h2 h3 h4
    injection h2 with h2
    injection h2 with h5 h6
    subst h5 h6
    rw [cell_of_row W g _ cur _ _ hb, cell_of_row W g _ cur _ _ hb]
    exact he j x hx
theorem GN_cut {g o c n : Nat} (h : GN W base ok (.slice (some ⟨g, o, none⟩) (n + 1) c) xs) : GN W base ok (.slice (some ⟨g, o + 2, none⟩) n (c - 1)) (xs.drop 1) := by
  rcases h with ⟨h0, -⟩ | ⟨g', o', c', cur, h0, hg, hok, hb, hc, hm, hs, he⟩
  · cases h0
  · injection h0 with h2 h3 h4
    injection h2 with h2
    injection h2 with h5 h6
    subst h5 h6 h4
    refine .inr ⟨g, o + 2, c - 1, cur, by rw [List.length_drop, ← h3]; rfl, hg, hok, hb, by rw [List.length_drop]; omega, by omega, by omega, fun j x hx => ?_⟩
    rw [List.getElem?_drop] at hx
    have h9 := he (1 + j) x hx
    rw [show o + (1 + j) * 2 = o + 2 + j * 2 by omega] at h9
    exact h9
end
def gcells : List (S75) → List Value
  | [] => []
  | x :: r => .int .i64 x.f0 :: .int .i64 x.f1 :: gcells r
theorem gcells_length : ∀ l : List (S75), (gcells l).length = l.length * 2
  | [] => rfl
  | x :: r => by simp only [gcells, List.length_cons, gcells_length r]; omega
theorem gcells_append : ∀ l m : List (S75), gcells (l ++ m) = gcells l ++ gcells m
  | [], _ => rfl
  | x :: r, m => by simp only [List.cons_append, gcells, gcells_append r m]
theorem gcells_at : ∀ (l : List (S75)) (j : Nat) (x : S75), l[j]? = some x → (gcells l)[j * 2]? = some (.int .i64 x.f0) ∧ (gcells l)[j * 2 + 1]? = some (.int .i64 x.f1)
  | [], _, _, h => by simp at h
  | y :: r, 0, x, h => by
    simp at h
    subst h
    exact ⟨rfl, rfl⟩
  | y :: r, j + 1, x, h => by
    have h1 := gcells_at r j x (by simpa using h)
    rw [show (j + 1) * 2 = j * 2 + 1 + 1 by omega]
    exact h1
theorem gcells_inv : ∀ (l : List (S75)) (i : Nat) (u : Value), (gcells l)[i]? = some u → ∃ (j : Nat) (x : S75), l[j]? = some x ∧ ((i = j * 2 ∧ u = .int .i64 x.f0) ∨ (i = j * 2 + 1 ∧ u = .int .i64 x.f1))
  | [], _, _, h => by simp [gcells] at h
  | y :: r, 0, u, h => ⟨0, y, rfl, .inl ⟨rfl, by simpa [gcells] using h.symm⟩⟩
  | y :: r, 1, u, h => ⟨0, y, rfl, .inr ⟨rfl, by simpa [gcells] using h.symm⟩⟩
  | y :: r, i + 2, u, h => by
    obtain ⟨j, x, h1, h2⟩ := gcells_inv r i u (by simpa [gcells] using h)
    exact ⟨j + 1, x, by simpa using h1, by rcases h2 with ⟨h2, h3⟩ | ⟨h2, h3⟩; exact .inl ⟨by omega, h3⟩; exact .inr ⟨by omega, h3⟩⟩
theorem gcells_one (p : S75) : ∀ u ∈ gcells [p], u.oneCell' = true := fun u hu => by
  simp only [gcells, List.mem_cons, List.not_mem_nil, or_false] at hu
  rcases hu with rfl | rfl
  · rfl
  · rfl
theorem owns_GN {W : World} {b base n : Nat} {ok : Nat → Prop} {v : Value} {xs : List (S75)} (h : W.ownsRow b 75 2 v n (gcells xs)) (hn : n = xs.length) (hok : ∀ k, b ≤ k → ok k) (hb : base ≤ b) : GN W base ok v xs := by
  subst hn
  rcases h.2 with ⟨h0, h1⟩ | ⟨g, cap, cur, h0, hbg, hg, hnc, hcm, hcs, htake⟩
  · exact .inl ⟨h0, List.eq_nil_of_length_eq_zero h1⟩
  · refine .inr ⟨g, 0, cap, cur, h0, Nat.le_trans hb hbg, hok g hbg, hg, hnc, hcm, by omega, fun j x hx => ?_⟩
    have hj := (List.getElem?_eq_some_iff.1 hx).1
    obtain ⟨e0, e1⟩ := gcells_at xs j x hx
    rw [← htake] at e0 e1
    rw [List.getElem?_take_of_lt (by omega), Array.getElem?_toList] at e0 e1
    exact ⟨by rw [Nat.zero_add]; exact e0, by rw [Nat.zero_add]; exact e1⟩
theorem owns_new {W : World} {b n : Nat} {v : Value} {xs : List Value} (h : W.ownsRow b 75 2 v n xs) (hn : 0 < n) : ∃ g, v.ownBlock = some g ∧ b ≤ g := by
  rcases h.2 with ⟨-, h1⟩ | ⟨g, cap, cur, rfl, hbg, -⟩
  · omega
  · exact ⟨g, rfl, hbg⟩
theorem owns_at {W : World} {b n : Nat} {v : Value} {u : Option Nat} {xs : List Value} (h : W.ownsRow b 75 2 v n xs) (hu : u = none) : v.ownBlock = u ∨ ∃ g, v.ownBlock = some g ∧ b ≤ g := by
  rcases h.2 with ⟨rfl, -⟩ | ⟨g, cap, cur, rfl, hbg, -⟩
  · exact .inl hu.symm
  · exact .inr ⟨g, rfl, hbg⟩
set_option maxRecDepth 100000 in
/-- append onto such a row. -/
theorem GN_append {W : World} {base : Nat} {ok : Nat → Prop} {v : Value} {xs : List (S75)} (h : GN W base ok v xs) (p : S75) (b : Nat) (h0 : W.cell? ⟨b, 0, none⟩ = some (.int .i64 p.f0)) (h1 : W.cell? ⟨b, 1, none⟩ = some (.int .i64 p.f1)) (hfresh : ∀ k, W.heap.size ≤ k → ok k) (hbase : base ≤ W.heap.size) (hl : (xs.length + 1) * 16 ≤ 140737488355328) (ty : Nat) :
    ∃ v' W', (Builtin.append_ #[23, 23] ty #[v, .slice (some ⟨b, 0, none⟩) 1 1]).run Tryd.prog W = .ok v' W' ∧ GN W' base ok v' (xs ++ [p]) ∧ W.grownBy W' v.ownBlock ∧ (v'.ownBlock = v.ownBlock ∨ ∃ b, v'.ownBlock = some b ∧ W.heap.size ≤ b) := by
  have ht := Tryd.underlying23
  obtain ⟨i, hi, hz⟩ := Option.map_eq_some_iff.1 (show (Tryd.prog.info? 75).map (fun i => (i.zero, i.size, i.bytes)) = some (some (.agg #[.int .i64 0, .int .i64 0]), 2, 16) from by kernel_rfl)
  simp only [Prod.mk.injEq] at hz
  obtain ⟨hz0, hz1, hz2⟩ := hz
  have hnews : ∀ j u, (gcells [p])[j]? = some u → W.cell? ((⟨b, 0, none⟩ : Addr).add j) = some u := fun j u hu => by
    rw [Addr.add_lit, Nat.zero_add]
    match j, hu with
    | 0, hu => exact h0.trans hu
    | 1, hu => exact h1.trans hu
  have h63 : xs.length + 1 ≤ maxLen := by unfold maxLen; omega
  rcases id h with ⟨rfl, rfl⟩ | ⟨g, o, c, cur, rfl, hg, hok, hb, hc, hm, hs, he⟩
  · obtain ⟨v', W', hr, hown, hgr, -⟩ := run_append_own (P := Tryd.prog) W W.heap.size 23 ty 75 i (.agg #[.int .i64 0, .int .i64 0]) 2 16 ht hi hz0 hz1 hz2 rfl (by omega) (.slice none 0 0) 0 [] (World.ownsRow_nil W W.heap.size 75 2) ⟨b, 0, none⟩ 1 1 (gcells [p]) rfl hnews (gcells_one p) h63 hl (Nat.le_refl _)
    exact ⟨v', W', hr, owns_GN hown rfl hfresh hbase, hgr, owns_at hown rfl⟩
  · by_cases hroom : xs.length + 1 ≤ c
    · have hr := run_append_room_cells (P := Tryd.prog) W 23 ty 75 i ht hi g o xs.length c ⟨b, 0, none⟩ 1 1 (gcells [p]) (by rw [hz1]; rfl) hnews (gcells_one p) hroom
        (fun j hj => by have hj : j < 2 := hj; rw [hz1, cell_of_row W g _ cur _ _ hb, Array.getElem?_eq_getElem (by omega)]; rfl) (fun j hj => bf0 hb _)
      rw [hz1] at hr
      refine ⟨_, _, hr, .inr ⟨g, o, c, (cur.setIfInBounds (o + xs.length * 2) (.int .i64 p.f0)).setIfInBounds (o + xs.length * 2 + 1) (.int .i64 p.f1), by rw [List.length_append]; rfl, hg, hok, blk_set (blk_set hb _ _) _ _, by rw [List.length_append]; exact hroom, hm, by simpa using hs, fun j x hx => ?_⟩, ⟨rfl, rfl, rfl, Nat.le_of_eq (by show _ = ((W.setCell _ _).setCell _ _).heap.size; rw [World.size_setCell, World.size_setCell]), fun k hk hne => ?_⟩, ?_⟩
      · rcases Nat.lt_or_ge j xs.length with hj | hj
        · rw [List.getElem?_append_left hj] at hx
          obtain ⟨e0, e1⟩ := he j x hx
          rw [Array.getElem?_setIfInBounds_ne (by omega), Array.getElem?_setIfInBounds_ne (by omega), Array.getElem?_setIfInBounds_ne (by omega), Array.getElem?_setIfInBounds_ne (by omega)]
          exact ⟨e0, e1⟩
        · have hj2 := (List.getElem?_eq_some_iff.1 hx).1
          rw [List.length_append, List.length_singleton] at hj2
          obtain rfl : j = xs.length := by omega
          simp at hx
          subst hx
          refine ⟨?_, ?_⟩
          · rw [Array.getElem?_setIfInBounds_ne (by omega), Array.getElem?_setIfInBounds_self_of_lt (by omega)]
          · rw [Array.getElem?_setIfInBounds_self_of_lt (by simp; omega)]
      · have hne' : k ≠ g := fun e => hne (by rw [e]; rfl)
        exact (Below.heap_setCell _ _ _ k hne').trans (Below.heap_setCell _ _ _ k hne')
      · exact .inl rfl
    · obtain ⟨v', W', hr, hown, hgr⟩ := run_append_arg_grows (P := Tryd.prog) W 23 ty 75 i (.agg #[.int .i64 0, .int .i64 0]) 2 16 ht hi hz0 hz1 hz2 rfl (by omega) ⟨g, o, none⟩ xs.length c (gcells xs) (gcells_length xs) (fun j u hu => by
        rw [Addr.add_lit]
        obtain ⟨n, x, hx, hu2⟩ := gcells_inv xs j u hu
        obtain ⟨e0, e1⟩ := he n x hx
        rw [cell_of_row W g _ cur _ _ hb]
        rcases hu2 with ⟨rfl, rfl⟩ | ⟨rfl, rfl⟩
        · exact e0
        · rw [← Nat.add_assoc]; exact e1) ⟨b, 0, none⟩ 1 1 (gcells [p]) rfl hnews (by omega) h63 hl
      rw [← gcells_append] at hown
      exact ⟨v', W', hr, owns_GN hown (by rw [List.length_append]; rfl) hfresh hbase, ⟨hgr.os, hgr.tape, hgr.output, hgr.size, fun k hk _ => hgr.block k hk (by simp)⟩, .inr (owns_new hown (by omega))⟩
/-- Every block but P and two rows' is what it was. -/
def Keeps (P : Nat) (u3 u4 : Option Nat) (w w' : World) : Prop := ∀ k, k < w.heap.size → k ≠ P → some k ≠ u3 → some k ≠ u4 → w'.heap[k]? = w.heap[k]?
section
variable {P : Nat} {u3 u4 : Option Nat} {w w1 w2 : World}
theorem keeps_below (hb : Below w.heap.size w w1) : Keeps P u3 u4 w w1 := fun k hk _ _ _ => hb.block k hk
theorem keeps_more (h : Keeps P u3 u4 w w1) (hs : w.heap.size ≤ w1.heap.size) (hb : Below w1.heap.size w1 w2) : Keeps P u3 u4 w w2 := fun k hk h1 h2 h3 => (hb.block k (Nat.lt_of_lt_of_le hk hs)).trans (h k hk h1 h2 h3)
theorem keeps_put (h : Keeps P u3 u4 w w1) (j : Nat) (v : Value) : Keeps P u3 u4 w (w1.setCell ⟨P, j, none⟩ v) := fun k hk h1 h2 h3 => (Below.heap_setCell w1 ⟨P, j, none⟩ v k h1).trans (h k hk h1 h2 h3)
theorem keeps_grown (h : Keeps P u3 u4 w w1) (hs : w.heap.size ≤ w1.heap.size) {row : Option Nat} (hg : w1.grownBy w2 row) (hr : row = u3 ∨ row = u4) : Keeps P u3 u4 w w2 := fun k hk h1 h2 h3 =>
  (hg.block k (Nat.lt_of_lt_of_le hk hs) (fun e => hr.elim (fun h => h2 (e.trans h)) (fun h => h3 (e.trans h)))).trans (h k hk h1 h2 h3)
end
set_option maxHeartbeats 8000000 in
set_option maxRecDepth 100000 in
theorem mailbox_Do1.calls (P base : Nat) (a0 a1 a2 : Int) (B3 : Option Addr) (b3 : Nat) (l3 : List (S55)) (B4 : Option Addr) (b4 : Nat) (l4 : List (S75)) (c0 c1 c2 c3 c4 : Int) (okc : Nat → Prop) (A5 : Option Addr) (d5 : Nat) (l5 : List (S98)) (A6 : Option Addr) (d6 : Nat) (l6 : List Int) (w : World) (hP : w.heap[P]? = some (.cells #[.int .i64 a0, .int .i64 a1, .int .i64 a2, .slice B3 l3.length b3, .slice B4 l4.length b4] 25 (0, 0))) (hbP : base ≤ P) (h3 : Kd.N k55 55 w base (fun k_ => (base ≤ k_ ∧ k_ ≠ P) ∧ some k_ ≠ (Value.slice B4 l4.length b4).ownBlock) (.slice B3 l3.length b3) l3) (h4 : Kd.N k75 75 w base (fun k_ => (base ≤ k_ ∧ k_ ≠ P) ∧ some k_ ≠ (Value.slice B3 l3.length b3).ownBlock) (.slice B4 l4.length b4) l4) (h5 : Kd.F k98 w okc A5 l5.length l5) (e5 : l5.length ≤ d5) (h6 : Kd.F (Kd.int .u8) w okc A6 l6.length l6) (e6 : l6.length ≤ d6) (hk : c0 = 1) (hl3 : (l3.length + 1) * 80 ≤ 140737488355328) (hl5 : l5.length * 32 ≤ 140737488355328) (hl6 : l6.length * 1 ≤ 140737488355328) :
    Calls Tryd.prog 27 #[.pointer (some ⟨P, 0, none⟩), .agg #[.int .i64 c0, .int .i64 c1, .int .i64 c2, .int .i64 c3, .int .i64 c4, .slice A5 l5.length d5, .slice A6 l6.length d6]] w fun e w' => ∃ v3 v4, e = .returned (.tuple #[]) ∧ w'.heap[P]? = some (.cells #[.int .i64 (wrap64 (a0 + 1)), .int .i64 (wrap64 (a1 + 1)), .int .i64 a2, v3, v4] 25 (0, 0)) ∧ Kd.V k55 55 w' base (fun k_ => base ≤ k_ ∧ k_ ≠ P) v3 (l3 ++ [⟨a0, a1, c2, c4, ⟨l5, l6⟩⟩]) ∧ Kd.V k75 75 w' base (fun k_ => base ≤ k_ ∧ k_ ≠ P) v4 (l4) ∧ Below base w w' := by
  subst hk
  have HP := Aside0.mk hP
  have H3 := Aside0.mk h3
  have H4 := Aside0.mk h4
  have H5 := Aside0.mk h5
  have H6 := Aside0.mk h6
  have hlP := blk_lt hP
  have n3 := (Kd.N_reads' h3).2.2.2.1
  have hPC : P ≠ w.heap.size := by omega
  have HP1 := Aside0.mk (blk_later hP (.cells #[.int .i64 1, .int .i64 c1, .int .i64 c2, .int .i64 c3, .int .i64 c4, .slice A5 l5.length d5, .slice A6 l6.length d6] 70))
  have HC1 := Aside0.mk (blk_at (w := w) (.cells #[.int .i64 1, .int .i64 c1, .int .i64 c2, .int .i64 c3, .int .i64 c4, .slice A5 l5.length d5, .slice A6 l6.length d6] 70))
  clear hP h3 h4 h5 h6
  have kp1 := bc0 HP1.out
  have kc1 := bc0 HC1.out
  go_enter Tryd.func27, Tryd.ntmps27
  go_wp2
  go_region_held_law (fun w' => w'.cell? ⟨P, 0, none⟩ = some (.int .i64 a0) ∧ w'.cell? ⟨P, 1, none⟩ = some (.int .i64 a1) ∧ w'.cell? ⟨P, 2, none⟩ = some (.int .i64 a2) ∧ w'.cell? ⟨P, 3, none⟩ = some (.slice B3 l3.length b3) ∧ w'.cell? ⟨P, 4, none⟩ = some (.slice B4 l4.length b4) ∧ w'.cell? ⟨w.heap.size, 1, none⟩ = some (.int .i64 c1)) (first | exact ⟨kp1 0, kp1 1, kp1 2, kp1 3, kp1 4, kc1 1⟩ | exact ⟨kp2 0, kp2 1, kp2 2, kp2 3, kp2 4, kc2 1⟩) (first | ((first | go_at_call 26 | (go_simp; go_at_call 26)); (with_reducible refine (mailbox_Place.calls a0 a1 a2 _ _ l3 _ _ l4 c1 (placeFrom l3 c1 0) _ ?s1 (Kd.N_reads' H3.out).2.1 ?s2 (Kd.N_reads' H4.out).2.1 rfl).mono ?_); (case s1 => exact Kd.C_below (Kd.N_reads' H3.out).2.2 (below_drew1 (below_alloc (Below.refl _ _) _))); (case s2 => exact Kd.C_below (Kd.N_reads' H4.out).2.2 (below_drew1 (below_alloc (Below.refl _ _) _))); rintro e w2 ⟨rfl, hb⟩; have HB2 := Aside0.mk (below_step (below_drew1 (below_alloc (Below.refl w.heap.size w) _)) hb); have HP2 := Aside0.mk (blk_call (blk_drew HP1.out) hb); have HC2 := Aside0.mk (blk_call (blk_drew HC1.out) hb); have kp2 := bc0 HP2.out; have kc2 := bc0 HC2.out; clear hb))
  all_goals
    go_wp2
    have hu := Tryd.underlying22
    have info : (Tryd.prog.info? 55).map (fun i => (i.zero, i.size, i.bytes)) = some (some (.agg #[.int .i64 0, .int .i64 0, .int .i64 0, .int .i64 0, .slice none 0 0, .slice none 0 0]), 6, 80) := by kernel_rfl
    have hb2 := below_size HB2.out
    have hv3 : ∀ k, (Value.slice B3 l3.length b3).ownBlock = some k → base ≤ k ∧ k < w.heap.size ∧ k ≠ P := fun k hk => ⟨Kd.N_base H3.out k hk, Kd.N_lt H3.out k hk, (H3.out.1 k hk).1.2⟩
    have hv4 : ∀ k, (Value.slice B4 l4.length b4).ownBlock = some k → base ≤ k ∧ k < w.heap.size ∧ k ≠ P := fun k hk => ⟨Kd.N_base H4.out k hk, Kd.N_lt H4.out k hk, (H4.out.1 k hk).1.2⟩
    have HV3 := Aside0.mk hv3
    have HV4 := Aside0.mk hv4
    have HK4 : Aside0 (∀ k, w.heap.size < k → ((base ≤ k ∧ k ≠ P) ∧ some k ≠ (Value.slice B4 l4.length b4).ownBlock) ∧ some k ≠ (Value.slice B3 l3.length b3).ownBlock) := ⟨fun k hk => And.intro (And.intro (And.intro (by omega) (by omega)) (fun he => by have := (HV4.out k he.symm).2.1; omega)) (fun he => by have := (HV3.out k he.symm).2.1; omega)⟩
    have hP3 : some P ≠ (Value.slice B3 l3.length b3).ownBlock := fun he => (hv3 P he.symm).2.2 rfl
    have hC3 : some w.heap.size ≠ (Value.slice B3 l3.length b3).ownBlock := fun he => by have := (hv3 _ he.symm).2.1; omega
    clear hv3 hv4
    refine region_till 22 (fun _ => True) (fun w' : World => w'.cell? ⟨P, 0, none⟩ = some (.int .i64 a0) ∧ w'.cell? ⟨P, 3, none⟩ = some (.slice B3 l3.length b3) ∧ w'.cell? ⟨w.heap.size, 2, none⟩ = some (.int .i64 c2) ∧ w'.cell? ⟨w.heap.size, 4, none⟩ = some (.int .i64 c4) ∧ w'.cell? ⟨w.heap.size, 5, none⟩ = some (.slice A5 l5.length d5) ∧ w'.cell? ⟨w.heap.size, 6, none⟩ = some (.slice A6 l6.length d6)) (by kernel_rfl) ⟨trivial, ⟨kp2 0, kp2 3, kc2 2, kc2 4, kc2 5, kc2 6⟩⟩ (fun hTU => ?_)
    refine till_take (i := 0) (v := ?_) rfl (by kernel_rfl) (by kernel_rfl) (by kernel_rfl) (by kernel_rfl) (fun _ _ _ h => h) (Or.inl ⟨by rfl, ?_⟩) (by assumption) ?_
    rotate_left
    · (intro w_ hS_; (try dsimp only at hS_); go_simp; try with_reducible rfl)
    try simp only [Act.put, List.setIfInBounds_toArray, List.set_cons_zero, List.set_cons_succ]
    refine till_take (i := 1) (v := ?_) rfl (by kernel_rfl) (by kernel_rfl) (by kernel_rfl) (by kernel_rfl) (fun _ _ _ h => h) (Or.inl ⟨by rfl, ?_⟩) (by assumption) ?_
    rotate_left
    · (intro w_ hS_; (try dsimp only at hS_); go_simp; try with_reducible rfl)
    try simp only [Act.put, List.setIfInBounds_toArray, List.set_cons_zero, List.set_cons_succ]
    refine till_take (i := 2) (v := ?_) rfl (by kernel_rfl) (by kernel_rfl) (by kernel_rfl) (by kernel_rfl) (fun _ _ _ h => h) (Or.inl ⟨by rfl, ?_⟩) (by assumption) ?_
    rotate_left
    · (intro w_ hS_; (try dsimp only at hS_); go_simp; try with_reducible rfl)
    try simp only [Act.put, List.setIfInBounds_toArray, List.set_cons_zero, List.set_cons_succ]
    refine till_take (i := 3) (v := ?_) rfl (by kernel_rfl) (by kernel_rfl) (by kernel_rfl) (by kernel_rfl) (fun _ _ _ h => h) (Or.inl ⟨by rfl, ?_⟩) (by assumption) ?_
    rotate_left
    · (intro w_ hS_; (try dsimp only at hS_); go_simp; try with_reducible rfl)
    try simp only [Act.put, List.setIfInBounds_toArray, List.set_cons_zero, List.set_cons_succ]
    refine till_take (i := 4) (v := ?_) rfl (by kernel_rfl) (by kernel_rfl) (by kernel_rfl) (by kernel_rfl) (fun _ _ _ h => h) (Or.inl ⟨by rfl, ?_⟩) (by assumption) ?_
    rotate_left
    · (intro w_ hS_; (try dsimp only at hS_); go_simp; try with_reducible rfl)
    try simp only [Act.put, List.setIfInBounds_toArray, List.set_cons_zero, List.set_cons_succ]
    refine till_take (i := 5) (v := ?_) rfl (by kernel_rfl) (by kernel_rfl) (by kernel_rfl) (by kernel_rfl) (fun _ _ _ h => h) (Or.inl ⟨by rfl, ?_⟩) (by assumption) ?_
    rotate_left
    · (intro w_ hS_; (try dsimp only at hS_); go_simp; try with_reducible rfl)
    try simp only [Act.put, List.setIfInBounds_toArray, List.set_cons_zero, List.set_cons_succ]
    refine till_take (i := 6) (v := ?_) rfl (by kernel_rfl) (by kernel_rfl) (by kernel_rfl) (by kernel_rfl) (fun _ _ _ h => h) (Or.inl ⟨by rfl, ?_⟩) (by assumption) ?_
    rotate_left
    · (intro w_ hS_; (try dsimp only at hS_); go_simp; try with_reducible rfl)
    try simp only [Act.put, List.setIfInBounds_toArray, List.set_cons_zero, List.set_cons_succ]
    refine till_take (i := 7) (v := ?_) rfl (by kernel_rfl) (by kernel_rfl) (by kernel_rfl) (by kernel_rfl) (fun _ _ _ h => h) (Or.inl ⟨by rfl, ?_⟩) (by assumption) ?_
    rotate_left
    · (intro w_ hS_; (try dsimp only at hS_); go_simp; try with_reducible rfl)
    try simp only [Act.put, List.setIfInBounds_toArray, List.set_cons_zero, List.set_cons_succ]
    refine till_take (i := 8) (v := ?_) rfl (by kernel_rfl) (by kernel_rfl) (by kernel_rfl) (by kernel_rfl) (fun _ _ _ h => h) (Or.inl ⟨by rfl, ?_⟩) (by assumption) ?_
    rotate_left
    · (intro w_ hS_; (try dsimp only at hS_); go_simp; try with_reducible rfl)
    try simp only [Act.put, List.setIfInBounds_toArray, List.set_cons_zero, List.set_cons_succ]
    refine till_take (i := 9) (v := ?_) rfl (by kernel_rfl) (by kernel_rfl) (by kernel_rfl) (by kernel_rfl) (fun _ _ _ h => h) (Or.inl ⟨by rfl, ?_⟩) (by assumption) ?_
    rotate_left
    · (intro w_ hS_; (try dsimp only at hS_); go_simp; try with_reducible rfl)
    try simp only [Act.put, List.setIfInBounds_toArray, List.set_cons_zero, List.set_cons_succ]
    refine till_take (i := 10) (v := ?_) rfl (by kernel_rfl) (by kernel_rfl) (by kernel_rfl) (by kernel_rfl) (fun _ _ _ h => h) (Or.inl ⟨by rfl, ?_⟩) (by assumption) ?_
    rotate_left
    · (intro w_ hS_; (try dsimp only at hS_); go_simp; try with_reducible rfl)
    try simp only [Act.put, List.setIfInBounds_toArray, List.set_cons_zero, List.set_cons_succ]
    refine till_take (i := 11) (v := ?_) rfl (by kernel_rfl) (by kernel_rfl) (by kernel_rfl) (by kernel_rfl) (fun _ _ _ h => h) (Or.inl ⟨by rfl, ?_⟩) (by assumption) ?_
    rotate_left
    · (intro w_ hS_; (try dsimp only at hS_); go_simp; try with_reducible rfl)
    try simp only [Act.put, List.setIfInBounds_toArray, List.set_cons_zero, List.set_cons_succ]
    refine till_take (i := 12) (v := ?_) rfl (by kernel_rfl) (by kernel_rfl) (by kernel_rfl) (by kernel_rfl) (fun _ _ _ h => h) (Or.inl ⟨by rfl, ?_⟩) (by assumption) ?_
    rotate_left
    · (intro w_ hS_; (try dsimp only at hS_); go_simp; try with_reducible rfl)
    try simp only [Act.put, List.setIfInBounds_toArray, List.set_cons_zero, List.set_cons_succ]
    refine till_take (i := 13) (v := ?_) rfl (by kernel_rfl) (by kernel_rfl) (by kernel_rfl) (by kernel_rfl) (fun _ _ _ h => h) (Or.inl ⟨by rfl, ?_⟩) (by assumption) ?_
    rotate_left
    · (intro w_ hS_; (try dsimp only at hS_); go_simp; try with_reducible rfl)
    try simp only [Act.put, List.setIfInBounds_toArray, List.set_cons_zero, List.set_cons_succ]
    refine till_take (i := 14) (v := ?_) rfl (by kernel_rfl) (by kernel_rfl) (by kernel_rfl) (by kernel_rfl) (fun _ _ _ h => h) (Or.inl ⟨by rfl, ?_⟩) (by assumption) ?_
    rotate_left
    · (intro w_ hS_; (try dsimp only at hS_); go_simp; try with_reducible rfl)
    try simp only [Act.put, List.setIfInBounds_toArray, List.set_cons_zero, List.set_cons_succ]
    refine till_take (i := 15) (v := ?_) rfl (by kernel_rfl) (by kernel_rfl) (by kernel_rfl) (by kernel_rfl) (fun _ _ _ h => h) (Or.inl ⟨by rfl, ?_⟩) (by assumption) ?_
    rotate_left
    · (intro w_ hS_; (try dsimp only at hS_); go_simp; try with_reducible rfl)
    try simp only [Act.put, List.setIfInBounds_toArray, List.set_cons_zero, List.set_cons_succ]
    refine till_one (i := 16) (by kernel_rfl) rfl (fun K hK => ?_)
    go_simp
    go_at_call 45
    ((with_reducible refine (mailbox_CloneMessage.calls okc _ _ l5 _ _ l6 _ ?s1 e5 ?s2 e6 hl5 hl6).mono ?_); (case s1 => exact Kd.F_below H5.out (below_drew1 HB2.out)); (case s2 => exact Kd.F_below H6.out (below_drew1 HB2.out)); rintro e w5 ⟨v0, v1, rfl, hv0, hv1, hb⟩; obtain ⟨C0, e0, rfl⟩ := Kd.V_slice hv0; obtain ⟨C1, e1, rfl⟩ := Kd.V_slice hv1; have HF5 : Aside0 (Kd.FK k55 w5 (fun k_ => w.heap.size < k_) ⟨a0, a1, c2, c4, ⟨l5, l6⟩⟩ [.int .i64 a0, .int .i64 a1, .int .i64 c2, .int .i64 c4, .slice C0 l5.length e0, .slice C1 l6.length e1]) := ⟨Kd.FK_mono (k55_mkF w5 _ ⟨a0, a1, c2, c4, ⟨l5, l6⟩⟩ (Kd.V_at hv0).2.1 (Kd.V_F hv0) (Kd.V_at hv1).2.1 (Kd.V_F hv1)) (fun k hk => by have h9 := blk_lt HC2.out; replace hk : w2.heap.size ≤ k := hk; omega)⟩; have HB4 := Aside0.mk (below_step (below_drew1 HB2.out) hb); have HB5 := Aside0.mk (below_less HB4.out (show base ≤ w.heap.size by omega)); have hb5 : base ≤ w5.heap.size := Nat.le_trans (show base ≤ w.heap.size by omega) (below_size HB4.out); have hb6 := below_size HB4.out; have HP5 := Aside0.mk (blk_call (blk_drew HP2.out) hb); have HC5 := Aside0.mk (blk_call (blk_drew HC2.out) hb); have HO5 := Aside0.mk (Kd.N_below H3.out HB4.out); have HQ5 := Aside0.mk (Kd.N_below H4.out HB4.out); have kp5 := bc0 HP5.out; have kc5 := bc0 HC5.out; have kp5a := bc1 HP5.out; have kc5a := bc1 HC5.out; have hw5 := blk_lt HC5.out; clear hv0 hv1 hb)
    refine hK.out _ _ trivial (fun _ _ => ⟨kp5 0, kp5 3, kc5 2, kc5 4, kc5 5, kc5 6⟩) (fun hTV => ?_)
    clear hK K hTU
    have hTU := hTV (by kernel_rfl) (by decide)
    clear hTV
    try simp only [Act.put, List.setIfInBounds_toArray, List.set_cons_zero, List.set_cons_succ]
    refine till_take (i := 17) (v := ?_) rfl (by kernel_rfl) (by kernel_rfl) (by kernel_rfl) (by kernel_rfl) (fun _ _ _ h => h) (Or.inl ⟨by rfl, ?_⟩) (by assumption) ?_
    rotate_left
    · (intro w_ hS_; (try dsimp only at hS_); go_simp; try with_reducible rfl)
    try simp only [Act.put, List.setIfInBounds_toArray, List.set_cons_zero, List.set_cons_succ]
    refine till_one (i := 18) (by kernel_rfl) rfl (fun K hK => ?_)
    go_simp
    refine hK.out _ _ trivial (fun _ _ => ⟨kp5a _ 0, kp5a _ 3, kc5a _ 2, kc5a _ 4, kc5a _ 5, kc5a _ 6⟩) (fun hTV => ?_)
    clear hK K hTU
    have hTU := hTV (by kernel_rfl) (by decide)
    clear hTV
    try simp only [Act.put, List.setIfInBounds_toArray, List.set_cons_zero, List.set_cons_succ]
    refine till_one (i := 19) (by kernel_rfl) rfl (fun K hK => ?_)
    (refine Kd.N_append_step k55 (w0 := w) base (by rfl) (.tmp 26) (.tmp 40) 22 55 (.agg #[.int .i64 0, .int .i64 0, .int .i64 0, .int .i64 0, .slice none 0 0, .slice none 0 0]) 80 rfl hu info rfl (by decide) (by omega) (.slice B3 l3.length b3) l3 ⟨a0, a1, c2, c4, ⟨l5, l6⟩⟩ [.int .i64 a0, .int .i64 a1, .int .i64 c2, .int .i64 c4, .slice C0 l5.length e0, .slice C1 l6.length e1] (fun k_ => (base ≤ k_ ∧ k_ ≠ P) ∧ some k_ ≠ (Value.slice B4 l4.length b4).ownBlock) (fun k_ => w.heap.size < k_) ?a1 ?a2 ?a3 ?a4 ?a5 HO5.out HB5.out hb5 hl3 ?_; (case a1 => rfl); (case a2 => rfl); (case a3 => exact HF5.out); (case a4 => exact HK4.out); (case a5 => exact fun k hk => (HK4.out k (Nat.lt_of_lt_of_le hw5 hk)).1); intro v7 w7 hn hb hg hat; obtain ⟨B7, b7, rfl⟩ := Kd.N_slice hn; rw [List.length_append, List.length_singleton] at hn; have HN7 := Aside0.mk hn; have HB7 := Aside0.mk hb; have HP7 := Aside0.mk (blk_grown HP5.out hg hP3); have HC7 := Aside0.mk (blk_grown HC5.out hg hC3); have HO7 := Aside0.mk (Kd.N_grown HQ5.out hg (fun k hk => hk.2)); have kp7 := bc0 HP7.out; have kc7 := bc0 HC7.out; have ks7 := bc0 (blk_set HP7.out 3 (.slice B7 (l3.length + 1) b7)); have kt7 := bc0 (blk_far (p := ⟨P, 3, none⟩) HC7.out (Ne.symm hPC) (.slice B7 (l3.length + 1) b7)); have kf7 := bf0 HP7.out; have hz7 := blk_lt HP7.out; clear hn hb hg hat)
    refine hK.out _ _ trivial (fun _ _ => ⟨kp7 0, kp7 3, kc7 2, kc7 4, kc7 5, kc7 6⟩) (fun hTV => ?_)
    clear hK K hTU
    have hTU := hTV (by kernel_rfl) (by decide)
    clear hTV
    try simp only [Act.put, List.setIfInBounds_toArray, List.set_cons_zero, List.set_cons_succ]
    refine till_take (i := 20) (v := ?_) rfl (by kernel_rfl) (by kernel_rfl) (by kernel_rfl) (by kernel_rfl) (fun _ _ _ h => h) (Or.inl ⟨by rfl, ?_⟩) (by assumption) ?_
    rotate_left
    · (intro w_ hS_; (try dsimp only at hS_); go_simp; try with_reducible rfl)
    try simp only [Act.put, List.setIfInBounds_toArray, List.set_cons_zero, List.set_cons_succ]
    refine till_take (i := 21) (v := ?_) rfl (by kernel_rfl) (by kernel_rfl) (by kernel_rfl) (by kernel_rfl) (fun _ _ _ h => h) (Or.inl ⟨by rfl, ?_⟩) (by assumption) ?_
    rotate_left
    · (intro w_ hS_; (try dsimp only at hS_); go_simp; try with_reducible rfl)
    try simp only [Act.put, List.setIfInBounds_toArray, List.set_cons_zero, List.set_cons_succ]
    refine till_one (i := 22) (by kernel_rfl) rfl (fun K hK => ?_)
    go_simp
    refine hK.out _ _ trivial (fun _ h => absurd rfl h) (fun _ => ?_)
    clear hK K hTU
    refine till_done (by kernel_rfl) ?_ _
  all_goals
    go_wp2
    have hP9 := blk_put (blk_put (blk_put HP7.out 3 (.slice B7 (l3.length + 1) b7) rfl) 0 (.int .i64 (wrap64 (a0 + 1))) rfl) 1 (.int .i64 (wrap64 (a1 + 1))) rfl
    refine bodyPost_end (v := .tuple #[]) (by simp [results, Tryd.results27, go_sem]) rfl ⟨_, _, rfl, hP9, ?_, ?_, ?_⟩
    · exact Kd.V_mono (Kd.V_far (Kd.V_far (Kd.V_far (Kd.N_V HN7.out) (fun k hk => hk.1.2) _) (fun k hk => hk.1.2) _) (fun k hk => hk.1.2) _) (fun k hk => hk.1)
    · exact Kd.V_mono (Kd.V_far (Kd.V_far (Kd.V_far (Kd.N_V HO7.out) (fun k hk => hk.1.2) _) (fun k hk => hk.1.2) _) (fun k hk => hk.1.2) _) (fun k hk => hk.1)
    · exact below_put (below_put (below_put HB7.out hbP) hbP) hbP
theorem placeFrom_range : ∀ (l : List (S55)) (u i : Int), placeFrom l u i = -1 ∨ (i ≤ placeFrom l u i ∧ placeFrom l u i < i + l.length)
  | [], _, _ => .inl rfl
  | x :: r, u, i => by
    unfold placeFrom
    split
    · exact .inr ⟨Int.le_refl _, by simp only [List.length_cons]; omega⟩
    · rcases placeFrom_range r u (i + 1) with h | ⟨h1, h2⟩
      · exact .inl h
      · exact .inr ⟨by omega, by simp only [List.length_cons]; omega⟩
theorem N_set2 {W : World} {base g n cap : Nat} {ok : Nat → Prop} {l : List (S55)} (h : Kd.N k55 55 W base ok (.slice (some ⟨g, 0, none⟩) n cap) l) {i : Nat} {x : S55} (hx : l[i]? = some x) (u : Int) : Kd.N k55 55 (W.setCell ⟨g, i * 6 + 2, none⟩ (.int .i64 u)) base ok (.slice (some ⟨g, 0, none⟩) n cap) (l.set i (⟨x.f0, x.f1, u, x.f3, x.f4⟩ : S55)) := by
  have hi := (List.getElem?_eq_some_iff.1 hx).1
  have hn := (Kd.N_reads' h).1
  obtain ⟨c, hcl, hFK, hcc, -⟩ := Kd.N_elem h z55 (i : Int) (by omega) (by omega)
  rw [show l.getD (i : Int).toNat z55 = x from by rw [Int.toNat_natCast, List.getD_eq_getElem?_getD, hx]; rfl] at hFK
  obtain ⟨D4, d4, D5, d5, rfl, e4, f4, e5, f5⟩ := k55_openF hFK
  exact (Kd.N_seg h (i : Int) (by omega) (by omega) (j := 2) (seg := [.int .i64 u]) (x' := (⟨x.f0, x.f1, u, x.f3, x.f4⟩ : S55)) rfl hcc (show 2 + 1 ≤ 6 by omega) (k55_mkF W _ (⟨x.f0, x.f1, u, x.f3, x.f4⟩ : S55) e4 f4 e5 f5) (fun _ hk => hk)).1
theorem N_set1 {W : World} {base g n cap : Nat} {ok : Nat → Prop} {l : List (S55)} (h : Kd.N k55 55 W base ok (.slice (some ⟨g, 0, none⟩) n cap) l) {i : Nat} {x : S55} (hx : l[i]? = some x) (u : Int) : Kd.N k55 55 (W.setCell ⟨g, i * 6 + 1, none⟩ (.int .i64 u)) base ok (.slice (some ⟨g, 0, none⟩) n cap) (l.set i (⟨x.f0, u, x.f2, x.f3, x.f4⟩ : S55)) := by
  have hi := (List.getElem?_eq_some_iff.1 hx).1
  have hn := (Kd.N_reads' h).1
  obtain ⟨c, hcl, hFK, hcc, -⟩ := Kd.N_elem h z55 (i : Int) (by omega) (by omega)
  rw [show l.getD (i : Int).toNat z55 = x from by rw [Int.toNat_natCast, List.getD_eq_getElem?_getD, hx]; rfl] at hFK
  obtain ⟨D4, d4, D5, d5, rfl, e4, f4, e5, f5⟩ := k55_openF hFK
  exact (Kd.N_seg h (i : Int) (by omega) (by omega) (j := 1) (seg := [.int .i64 u]) (x' := (⟨x.f0, u, x.f2, x.f3, x.f4⟩ : S55)) rfl hcc (show 1 + 1 ≤ 6 by omega) (k55_mkF W _ (⟨x.f0, u, x.f2, x.f3, x.f4⟩ : S55) e4 f4 e5 f5) (fun _ hk => hk)).1
theorem N_flags {W : World} {base g n cap : Nat} {ok : Nat → Prop} {l : List (S55)} (h : Kd.N k55 55 W base ok (.slice (some ⟨g, 0, none⟩) n cap) l) {i : Nat} {x : S55} (hx : l[i]? = some x) (v s : Int) : Kd.N k55 55 ((W.setCell ⟨g, i * 6 + 2, none⟩ (.int .i64 v)).setCell ⟨g, i * 6 + 1, none⟩ (.int .i64 s)) base ok (.slice (some ⟨g, 0, none⟩) n cap) (l.set i ⟨x.f0, s, v, x.f3, x.f4⟩) := by
  have h1 := N_set1 (i := i) (x := ⟨x.f0, x.f1, v, x.f3, x.f4⟩) (N_set2 h hx v) (by rw [List.getElem?_set_self (List.getElem?_eq_some_iff.1 hx).1]) s
  rwa [List.set_set] at h1
set_option maxHeartbeats 8000000 in
set_option maxRecDepth 100000 in
theorem mailbox_Do2.calls (P base : Nat) (a0 a1 a2 : Int) (B3 : Option Addr) (b3 : Nat) (l3 : List (S55)) (B4 : Option Addr) (b4 : Nat) (l4 : List (S75)) (c0 c1 c2 c3 c4 : Int) (okc : Nat → Prop) (A5 : Option Addr) (d5 : Nat) (l5 : List (S98)) (A6 : Option Addr) (d6 : Nat) (l6 : List Int) (w : World) (okm : Nat → Prop) (hok : ∀ k, okm k → base ≤ k ∧ k ≠ P) (hnew : ∀ k, w.heap.size ≤ k → okm k) (hP : w.heap[P]? = some (.cells #[.int .i64 a0, .int .i64 a1, .int .i64 a2, .slice B3 l3.length b3, .slice B4 l4.length b4] 25 (0, 0))) (hbP : base ≤ P) (h3 : Kd.N k55 55 w base (fun k_ => okm k_ ∧ some k_ ≠ (Value.slice B4 l4.length b4).ownBlock) (.slice B3 l3.length b3) l3) (h4 : GN w base (fun k_ => okm k_ ∧ some k_ ≠ (Value.slice B3 l3.length b3).ownBlock) (.slice B4 l4.length b4) l4) (h5 : Kd.F k98 w okc A5 l5.length l5) (e5 : l5.length ≤ d5) (h6 : Kd.F (Kd.int .u8) w okc A6 l6.length l6) (e6 : l6.length ≤ d6) (hk : c0 = 2) (hp : 0 ≤ placeFrom l3 c1 0) (x : S55) (hx : l3[(placeFrom l3 c1 0).toNat]? = some x) (n : Int) (hn : n = Go.bits .or .i64 (Go.bits .andNot .i64 x.f2 c3) c2) :
    Calls Tryd.prog 27 #[.pointer (some ⟨P, 0, none⟩), .agg #[.int .i64 c0, .int .i64 c1, .int .i64 c2, .int .i64 c3, .int .i64 c4, .slice A5 l5.length d5, .slice A6 l6.length d6]] w fun e w' => ∃ v3 v4, e = .returned (.tuple #[]) ∧ w'.heap[P]? = some (.cells #[.int .i64 a0, .int .i64 (if n = x.f2 then a1 else wrap64 (a1 + 1)), .int .i64 a2, v3, v4] 25 (0, 0)) ∧ Kd.N k55 55 w' base (fun k_ => okm k_ ∧ some k_ ≠ v4.ownBlock) v3 (if n = x.f2 then l3 else l3.set (placeFrom l3 c1 0).toNat ⟨x.f0, a1, n, x.f3, x.f4⟩) ∧ GN w' base (fun k_ => okm k_ ∧ some k_ ≠ v3.ownBlock) v4 (l4) ∧ Below base w w' ∧ Keeps P (Value.slice B3 l3.length b3).ownBlock (Value.slice B4 l4.length b4).ownBlock w w' := by
  by_cases hn0 : n = x.f2
  · have t1 : (n == x.f2) = true := beq_iff_eq.2 hn0
    rw [if_pos hn0, if_pos hn0]
    subst hk
    obtain ⟨i, hi⟩ : ∃ i : Nat, placeFrom l3 c1 0 = i := ⟨(placeFrom l3 c1 0).toNat, by omega⟩
    have hil : i < l3.length := by rcases placeFrom_range l3 c1 0 with h | h <;> omega
    have hPF : mailbox_Place.f a0 a1 a2 l3 l4 c1 = some (i : Int) := congrArg some hi
    first | rw [hi] at hx ⊢ | rw [hi] at hx
    first | rw [Int.toNat_natCast] at hx ⊢ | rw [Int.toNat_natCast] at hx
    have HP := Aside0.mk hP
    have H3 := Aside0.mk h3
    have H4 := Aside0.mk h4
    have H5 := Aside0.mk h5
    have H6 := Aside0.mk h6
    have hlP := blk_lt hP
    have n3 := (Kd.N_reads' h3).2.2.2.1
    have hPC : P ≠ w.heap.size := by omega
    have HP1 := Aside0.mk (blk_later hP (.cells #[.int .i64 2, .int .i64 c1, .int .i64 c2, .int .i64 c3, .int .i64 c4, .slice A5 l5.length d5, .slice A6 l6.length d6] 70))
    have HC1 := Aside0.mk (blk_at (w := w) (.cells #[.int .i64 2, .int .i64 c1, .int .i64 c2, .int .i64 c3, .int .i64 c4, .slice A5 l5.length d5, .slice A6 l6.length d6] 70))
    clear hP h3 h4 h5 h6
    have kp1 := bc0 HP1.out
    have kc1 := bc0 HC1.out
    go_enter Tryd.func27, Tryd.ntmps27
    go_wp2
    go_region_held_law (fun w' => w'.cell? ⟨P, 0, none⟩ = some (.int .i64 a0) ∧ w'.cell? ⟨P, 1, none⟩ = some (.int .i64 a1) ∧ w'.cell? ⟨P, 2, none⟩ = some (.int .i64 a2) ∧ w'.cell? ⟨P, 3, none⟩ = some (.slice B3 l3.length b3) ∧ w'.cell? ⟨P, 4, none⟩ = some (.slice B4 l4.length b4) ∧ w'.cell? ⟨w.heap.size, 1, none⟩ = some (.int .i64 c1)) (first | exact ⟨kp1 0, kp1 1, kp1 2, kp1 3, kp1 4, kc1 1⟩ | exact ⟨kp2 0, kp2 1, kp2 2, kp2 3, kp2 4, kc2 1⟩) (first | ((first | go_at_call 26 | (go_simp; go_at_call 26)); (with_reducible refine (mailbox_Place.calls a0 a1 a2 _ _ l3 _ _ l4 c1 (i : Int) _ ?s1 (Kd.N_reads' H3.out).2.1 ?s2 (GN_reads H4.out).1 hPF).mono ?_); (case s1 => exact Kd.C_below (Kd.N_reads' H3.out).2.2 (below_drew1 (below_alloc (Below.refl _ _) _))); (case s2 => exact Kd.C_below (GN_reads H4.out).2 (below_drew1 (below_alloc (Below.refl _ _) _))); rintro e w2 ⟨rfl, hb⟩; have HB2 := Aside0.mk (below_step (below_drew1 (below_alloc (Below.refl w.heap.size w) _)) hb); have HP2 := Aside0.mk (blk_call (blk_drew HP1.out) hb); have HC2 := Aside0.mk (blk_call (blk_drew HC1.out) hb); have kp2 := bc0 HP2.out; have kc2 := bc0 HC2.out; clear hb))
    obtain ⟨g, cap, hv, hg1, hg2, -⟩ := Kd.N_form H3.out (by omega)
    injection hv with hv1 _ hv2
    subst hv1 hv2
    have hgP : g ≠ P := (hok g (H3.out.1 g (by simp [Value.ownBlock])).1).2
    have HN2 := Aside0.mk (Kd.N_below H3.out HB2.out)
    obtain ⟨c, hcl, hFK, hcc, hfr⟩ := Kd.N_elem HN2.out z55 (i : Int) (by omega) (by omega)
    rw [Int.toNat_natCast] at hFK
    rw [show l3.getD i z55 = x from by rw [List.getD_eq_getElem?_getD, hx]; rfl] at hFK
    obtain ⟨D4, d4, D5, d5', rfl, e4, f4, e5', f5⟩ := k55_openF hFK
    have HCC := Aside0.mk hcc
    simp only [Int.toNat_natCast] at hcc hfr
    have q1 : w2.cell? ⟨g, i * 6 + 1, none⟩ = some (.int .i64 x.f1) := hcc 1 _ rfl
    have q2 : w2.cell? ⟨g, i * 6 + 2, none⟩ = some (.int .i64 x.f2) := hcc 2 _ rfl
    have r1 : w2.frozen? ⟨g, i * 6 + 1, none⟩ = false := hfr 1
    have r2 : w2.frozen? ⟨g, i * 6 + 2, none⟩ = false := hfr 2
    have HF4 := Aside0.mk f4
    have HF5 := Aside0.mk f5
    have HI := Aside0.mk hx
    have kpf := bf0 HP2.out
    have hzP := blk_lt HP2.out
    have hi' : (i : Int) < l3.length := by omega
    clear hcl hFK hcc hfr f4 f5 hx
    go_wp2
    go_quiet (fail)
    go_wp2
    exact bodyPost_ret (v := .tuple #[]) (by simp [results, Tryd.results27, go_sem]) rfl ⟨_, _, rfl, HP2.out, Kd.N_drewN HN2.out _, GN_drewN (GN_below H4.out HB2.out) _, pw_below_drewN (below_less HB2.out (Nat.le_trans hbP (Nat.le_of_lt hlP))) _, keeps_below (pw_below_drewN HB2.out _)⟩
  · have t1 : (n == x.f2) = false := beq_eq_false_iff_ne.2 hn0
    rw [if_neg hn0, if_neg hn0]
    subst hk
    obtain ⟨i, hi⟩ : ∃ i : Nat, placeFrom l3 c1 0 = i := ⟨(placeFrom l3 c1 0).toNat, by omega⟩
    have hil : i < l3.length := by rcases placeFrom_range l3 c1 0 with h | h <;> omega
    have hPF : mailbox_Place.f a0 a1 a2 l3 l4 c1 = some (i : Int) := congrArg some hi
    first | rw [hi] at hx ⊢ | rw [hi] at hx
    first | rw [Int.toNat_natCast] at hx ⊢ | rw [Int.toNat_natCast] at hx
    have HP := Aside0.mk hP
    have H3 := Aside0.mk h3
    have H4 := Aside0.mk h4
    have H5 := Aside0.mk h5
    have H6 := Aside0.mk h6
    have hlP := blk_lt hP
    have n3 := (Kd.N_reads' h3).2.2.2.1
    have hPC : P ≠ w.heap.size := by omega
    have HP1 := Aside0.mk (blk_later hP (.cells #[.int .i64 2, .int .i64 c1, .int .i64 c2, .int .i64 c3, .int .i64 c4, .slice A5 l5.length d5, .slice A6 l6.length d6] 70))
    have HC1 := Aside0.mk (blk_at (w := w) (.cells #[.int .i64 2, .int .i64 c1, .int .i64 c2, .int .i64 c3, .int .i64 c4, .slice A5 l5.length d5, .slice A6 l6.length d6] 70))
    clear hP h3 h4 h5 h6
    have kp1 := bc0 HP1.out
    have kc1 := bc0 HC1.out
    go_enter Tryd.func27, Tryd.ntmps27
    go_wp2
    go_region_held_law (fun w' => w'.cell? ⟨P, 0, none⟩ = some (.int .i64 a0) ∧ w'.cell? ⟨P, 1, none⟩ = some (.int .i64 a1) ∧ w'.cell? ⟨P, 2, none⟩ = some (.int .i64 a2) ∧ w'.cell? ⟨P, 3, none⟩ = some (.slice B3 l3.length b3) ∧ w'.cell? ⟨P, 4, none⟩ = some (.slice B4 l4.length b4) ∧ w'.cell? ⟨w.heap.size, 1, none⟩ = some (.int .i64 c1)) (first | exact ⟨kp1 0, kp1 1, kp1 2, kp1 3, kp1 4, kc1 1⟩ | exact ⟨kp2 0, kp2 1, kp2 2, kp2 3, kp2 4, kc2 1⟩) (first | ((first | go_at_call 26 | (go_simp; go_at_call 26)); (with_reducible refine (mailbox_Place.calls a0 a1 a2 _ _ l3 _ _ l4 c1 (i : Int) _ ?s1 (Kd.N_reads' H3.out).2.1 ?s2 (GN_reads H4.out).1 hPF).mono ?_); (case s1 => exact Kd.C_below (Kd.N_reads' H3.out).2.2 (below_drew1 (below_alloc (Below.refl _ _) _))); (case s2 => exact Kd.C_below (GN_reads H4.out).2 (below_drew1 (below_alloc (Below.refl _ _) _))); rintro e w2 ⟨rfl, hb⟩; have HB2 := Aside0.mk (below_step (below_drew1 (below_alloc (Below.refl w.heap.size w) _)) hb); have HP2 := Aside0.mk (blk_call (blk_drew HP1.out) hb); have HC2 := Aside0.mk (blk_call (blk_drew HC1.out) hb); have kp2 := bc0 HP2.out; have kc2 := bc0 HC2.out; clear hb))
    obtain ⟨g, cap, hv, hg1, hg2, -⟩ := Kd.N_form H3.out (by omega)
    injection hv with hv1 _ hv2
    subst hv1 hv2
    have hgP : g ≠ P := (hok g (H3.out.1 g (by simp [Value.ownBlock])).1).2
    have HN2 := Aside0.mk (Kd.N_below H3.out HB2.out)
    obtain ⟨c, hcl, hFK, hcc, hfr⟩ := Kd.N_elem HN2.out z55 (i : Int) (by omega) (by omega)
    rw [Int.toNat_natCast] at hFK
    rw [show l3.getD i z55 = x from by rw [List.getD_eq_getElem?_getD, hx]; rfl] at hFK
    obtain ⟨D4, d4, D5, d5', rfl, e4, f4, e5', f5⟩ := k55_openF hFK
    have HCC := Aside0.mk hcc
    simp only [Int.toNat_natCast] at hcc hfr
    have q1 : w2.cell? ⟨g, i * 6 + 1, none⟩ = some (.int .i64 x.f1) := hcc 1 _ rfl
    have q2 : w2.cell? ⟨g, i * 6 + 2, none⟩ = some (.int .i64 x.f2) := hcc 2 _ rfl
    have r1 : w2.frozen? ⟨g, i * 6 + 1, none⟩ = false := hfr 1
    have r2 : w2.frozen? ⟨g, i * 6 + 2, none⟩ = false := hfr 2
    have HF4 := Aside0.mk f4
    have HF5 := Aside0.mk f5
    have HI := Aside0.mk hx
    have kpf := bf0 HP2.out
    have hzP := blk_lt HP2.out
    have hi' : (i : Int) < l3.length := by omega
    clear hcl hFK hcc hfr f4 f5 hx
    go_wp2
    go_quiet (fail)
    go_wp2
    have hgr : (w2.drewN nq).grownBy (((w2.drewN nq).setCell ⟨g, i * 6 + 2, none⟩ (.int .i64 n)).setCell ⟨g, i * 6 + 1, none⟩ (.int .i64 a1)) (some g) := grown_set (grown_set ⟨rfl, rfl, rfl, Nat.le_refl _, fun _ _ _ => rfl⟩ (i * 6 + 2) (.int .i64 n)) (i * 6 + 1) (.int .i64 a1)
    have hP9 := blk_put (blk_grown (blk_drewN HP2.out nq) hgr (fun he => hgP (by injection he with he; exact he.symm))) 1 (.int .i64 (wrap64 (a1 + 1))) rfl
    subst hn
    exact bodyPost_end (v := .tuple #[]) (by simp [results, Tryd.results27, go_sem]) rfl ⟨_, _, rfl, hP9, Kd.N_far (N_flags (Kd.N_drewN HN2.out nq) HI.out _ a1) (fun k hk => (hok k hk.1).2) _, GN_far (GN_grown (GN_drewN (GN_below H4.out HB2.out) nq) hgr (fun k hk he => hk.2 (by rw [he]; simp [Value.ownBlock]))) (fun k hk => (hok k hk.1).2) _, below_put (below_put (below_put (pw_below_drewN (below_less HB2.out (Nat.le_trans hbP (Nat.le_of_lt hlP))) _) hg1) hg1) hbP, keeps_put (keeps_grown (keeps_below (pw_below_drewN HB2.out nq)) (below_size (pw_below_drewN HB2.out nq)) hgr (.inl rfl)) _ _⟩
set_option maxHeartbeats 8000000 in
set_option maxRecDepth 100000 in
theorem mailbox_Do3.calls (P base : Nat) (a0 a1 a2 : Int) (B3 : Option Addr) (b3 : Nat) (l3 : List (S55)) (B4 : Option Addr) (b4 : Nat) (l4 : List (S75)) (c0 c1 c2 c3 c4 : Int) (okc : Nat → Prop) (A5 : Option Addr) (d5 : Nat) (l5 : List (S98)) (A6 : Option Addr) (d6 : Nat) (l6 : List Int) (w : World) (okm : Nat → Prop) (hok : ∀ k, okm k → base ≤ k ∧ k ≠ P) (hnew : ∀ k, w.heap.size ≤ k → okm k) (hP : w.heap[P]? = some (.cells #[.int .i64 a0, .int .i64 a1, .int .i64 a2, .slice B3 l3.length b3, .slice B4 l4.length b4] 25 (0, 0))) (hbP : base ≤ P) (h3 : Kd.N k55 55 w base (fun k_ => okm k_ ∧ some k_ ≠ (Value.slice B4 l4.length b4).ownBlock) (.slice B3 l3.length b3) l3) (h4 : GN w base (fun k_ => okm k_ ∧ some k_ ≠ (Value.slice B3 l3.length b3).ownBlock) (.slice B4 l4.length b4) l4) (h5 : Kd.F k98 w okc A5 l5.length l5) (e5 : l5.length ≤ d5) (h6 : Kd.F (Kd.int .u8) w okc A6 l6.length l6) (e6 : l6.length ≤ d6) (hk : c0 = 3) (hp : 0 ≤ placeFrom l3 c1 0) (hl4 : (l4.length + 1) * 16 ≤ 140737488355328) (y : Int) (hy : y = if 400 < (l4 ++ [(⟨c1, a1⟩ : S75)]).length then ((l4 ++ [(⟨c1, a1⟩ : S75)]).getD 0 z75).f1 else a2) :
    Calls Tryd.prog 27 #[.pointer (some ⟨P, 0, none⟩), .agg #[.int .i64 c0, .int .i64 c1, .int .i64 c2, .int .i64 c3, .int .i64 c4, .slice A5 l5.length d5, .slice A6 l6.length d6]] w fun e w' => ∃ v3 v4, e = .returned (.tuple #[]) ∧ w'.heap[P]? = some (.cells #[.int .i64 a0, .int .i64 (wrap64 (a1 + 1)), .int .i64 y, v3, v4] 25 (0, 0)) ∧ Kd.N k55 55 w' base (fun k_ => okm k_ ∧ some k_ ≠ v4.ownBlock) v3 (l3.eraseIdx (placeFrom l3 c1 0).toNat) ∧ GN w' base (fun k_ => okm k_ ∧ some k_ ≠ v3.ownBlock) v4 (if 400 < (l4 ++ [(⟨c1, a1⟩ : S75)]).length then (l4 ++ [(⟨c1, a1⟩ : S75)]).drop 1 else l4 ++ [(⟨c1, a1⟩ : S75)]) ∧ Below base w w' ∧ Keeps P (Value.slice B3 l3.length b3).ownBlock (Value.slice B4 l4.length b4).ownBlock w w' := by
  rw [show (l4 ++ [(⟨c1, a1⟩ : S75)]).length = l4.length + 1 from by simp] at hy ⊢
  by_cases cL : 400 < l4.length + 1
  · rw [if_pos cL] at hy ⊢
    have HY := Aside0.mk hy
    clear hy
    have cL1 : decide ((400 : Int) < ((l4.length : Int) + 1)) = true := decide_eq_true (by omega)
    subst hk
    obtain ⟨i, hi⟩ : ∃ i : Nat, placeFrom l3 c1 0 = i := ⟨(placeFrom l3 c1 0).toNat, by omega⟩
    have hil : i < l3.length := by rcases placeFrom_range l3 c1 0 with h | h <;> omega
    have hPF : mailbox_Place.f a0 a1 a2 l3 l4 c1 = some (i : Int) := congrArg some hi
    rw [hi, Int.toNat_natCast]
    have HP := Aside0.mk hP
    have H3 := Aside0.mk h3
    have H4 := Aside0.mk h4
    have H5 := Aside0.mk h5
    have H6 := Aside0.mk h6
    have hlP := blk_lt hP
    have n3 := (Kd.N_reads' h3).2.2.2.1
    have hPC : P ≠ w.heap.size := by omega
    have HP1 := Aside0.mk (blk_later hP (.cells #[.int .i64 3, .int .i64 c1, .int .i64 c2, .int .i64 c3, .int .i64 c4, .slice A5 l5.length d5, .slice A6 l6.length d6] 70))
    have HC1 := Aside0.mk (blk_at (w := w) (.cells #[.int .i64 3, .int .i64 c1, .int .i64 c2, .int .i64 c3, .int .i64 c4, .slice A5 l5.length d5, .slice A6 l6.length d6] 70))
    clear hP h3 h4 h5 h6
    have kp1 := bc0 HP1.out
    have kc1 := bc0 HC1.out
    go_enter Tryd.func27, Tryd.ntmps27
    go_wp2
    go_region_held_law (fun w' => w'.cell? ⟨P, 0, none⟩ = some (.int .i64 a0) ∧ w'.cell? ⟨P, 1, none⟩ = some (.int .i64 a1) ∧ w'.cell? ⟨P, 2, none⟩ = some (.int .i64 a2) ∧ w'.cell? ⟨P, 3, none⟩ = some (.slice B3 l3.length b3) ∧ w'.cell? ⟨P, 4, none⟩ = some (.slice B4 l4.length b4) ∧ w'.cell? ⟨w.heap.size, 1, none⟩ = some (.int .i64 c1)) (first | exact ⟨kp1 0, kp1 1, kp1 2, kp1 3, kp1 4, kc1 1⟩ | exact ⟨kp2 0, kp2 1, kp2 2, kp2 3, kp2 4, kc2 1⟩) (first | ((first | go_at_call 26 | (go_simp; go_at_call 26)); (with_reducible refine (mailbox_Place.calls a0 a1 a2 _ _ l3 _ _ l4 c1 (i : Int) _ ?s1 (Kd.N_reads' H3.out).2.1 ?s2 (GN_reads H4.out).1 hPF).mono ?_); (case s1 => exact Kd.C_below (Kd.N_reads' H3.out).2.2 (below_drew1 (below_alloc (Below.refl _ _) _))); (case s2 => exact Kd.C_below (GN_reads H4.out).2 (below_drew1 (below_alloc (Below.refl _ _) _))); rintro e w2 ⟨rfl, hb⟩; have HB2 := Aside0.mk (below_step (below_drew1 (below_alloc (Below.refl w.heap.size w) _)) hb); have HP2 := Aside0.mk (blk_call (blk_drew HP1.out) hb); have HC2 := Aside0.mk (blk_call (blk_drew HC1.out) hb); have kp2 := bc0 HP2.out; have kc2 := bc0 HC2.out; clear hb))
    obtain ⟨g, cap, hv, hg1, hg2, -⟩ := Kd.N_form H3.out (by omega)
    injection hv with hv1 _ hv2
    subst hv1 hv2
    have hgP : g ≠ P := (hok g (H3.out.1 g (by simp [Value.ownBlock])).1).2
    have HN2 := Aside0.mk (Kd.N_below H3.out HB2.out)
    have kpf := bf0 HP2.out
    have hzP := blk_lt HP2.out
    have w1i : IntKind.i64.wrap ((i : Int) + 1) = (i : Int) + 1 := (i64_w _).trans (by unfold wrap64; omega)
    obtain ⟨m, hm⟩ : ∃ m, l3.length = m + 1 := ⟨l3.length - 1, by omega⟩
    have HN2' : Aside0 (Kd.N k55 55 w2 base (fun k_ => okm k_ ∧ some k_ ≠ (Value.slice B4 l4.length b4).ownBlock) (.slice (some ⟨g, 0, none⟩) (m + 1) b3) l3) := ⟨by rw [← hm]; exact HN2.out⟩
    have HN4 := Aside0.mk (GN_below H4.out HB2.out)
    have him : i ≤ m := by omega
    have hlw := below_size HB2.out
    have HW4 : Aside0 (∀ k, (Value.slice B4 l4.length b4).ownBlock = some k → base ≤ k ∧ k < w.heap.size ∧ k ≠ P ∧ k ≠ g) := ⟨fun k hk => ⟨(GN_own H4.out k hk).1, (GN_own H4.out k hk).2.2, (hok k (GN_own H4.out k hk).2.1.1).2, fun he => (GN_own H4.out k hk).2.1.2 (by rw [he]; simp [Value.ownBlock])⟩⟩
    have hPg : some P ≠ some g := fun he => hgP (by injection he with he; exact he.symm)
    have hCg : some w.heap.size ≠ some g := fun he => by injection he with he; omega
    go_wp2_with (first | (go_at_call 48; (with_reducible refine (slices_Delete_Stored.calls _ g m b3 i base l3 _ HN2'.out him).mono ?_); rintro e w3 ⟨rfl, hn, hg⟩; have HN3 := Aside0.mk hn; have HG3 := Aside0.mk hg; have HP3 := Aside0.mk (blk_grown HP2.out hg hPg); have HC3 := Aside0.mk (blk_grown HC2.out hg hCg); have HN5 := Aside0.mk (GN_grown HN4.out hg (fun k hk he => hk.2 (by rw [he]; simp [Value.ownBlock]))); have kp3 := bc0 HP3.out; have kf3 := bf0 HP3.out; have kc3 := bc0 HC3.out; have hz3 := blk_lt HP3.out; have hzc3 := blk_lt HC3.out; clear hn hg))
    have HB3 := Aside0.mk (pw_below_grown (below_less HB2.out (Nat.le_trans hbP (Nat.le_of_lt hlP))) (some g) (Nat.le_trans (Nat.le_trans hbP (Nat.le_of_lt hlP)) hlw) HG3.out (fun k hk => by injection hk with hk; omega))
    have HP4 := Aside0.mk (blk_put HP3.out 3 (.slice (some ⟨g, 0, none⟩) m b3) rfl)
    have HC4 := Aside0.mk (blk_far (p := ⟨P, 3, none⟩) HC3.out (Ne.symm hPC) (.slice (some ⟨g, 0, none⟩) m b3))
    have HN6 := Aside0.mk (Kd.N_far (p := ⟨P, 3, none⟩) HN3.out (fun k hk => (hok k hk.1).2) (.slice (some ⟨g, 0, none⟩) m b3))
    have HN7 := Aside0.mk (GN_far (p := ⟨P, 3, none⟩) HN5.out (fun k hk => (hok k hk.1).2) (.slice (some ⟨g, 0, none⟩) m b3))
    have HB4 := Aside0.mk (below_put (j := 3) (v := .slice (some ⟨g, 0, none⟩) m b3) HB3.out hbP)
    have hs4 : w2.heap.size ≤ (w3.setCell ⟨P, 3, none⟩ (.slice (some ⟨g, 0, none⟩) m b3)).heap.size := by rw [World.size_setCell]; exact HG3.out.size
    have HE4 := Aside0.mk (keeps_put (keeps_grown (P := P) (u3 := some g) (u4 := (Value.slice B4 l4.length b4).ownBlock) (keeps_below HB2.out) hlw HG3.out (.inl rfl)) 3 (.slice (some ⟨g, 0, none⟩) m b3))
    have hsw4 : w.heap.size ≤ (w3.setCell ⟨P, 3, none⟩ (.slice (some ⟨g, 0, none⟩) m b3)).heap.size := Nat.le_trans hlw hs4
    clear HB3 HP3 HC3 HN3 HN5 kp3 kf3 kc3 hz3 hzc3 HG3
    generalize w3.setCell ⟨P, 3, none⟩ (.slice (some ⟨g, 0, none⟩) m b3) = W4 at *
    have kp4 := bc0 HP4.out
    have kc4 := bc0 HC4.out
    have kp4a := bc1 HP4.out
    have kc4a := bc1 HC4.out
    have hu := Tryd.underlying23
    have info : (Tryd.prog.info? 75).map (fun i => (i.zero, i.size, i.bytes)) = some (some (.agg #[.int .i64 0, .int .i64 0]), 2, 16) := by kernel_rfl
    have hb4 : base ≤ W4.heap.size := Nat.le_trans (Nat.le_trans (Nat.le_trans hbP (Nat.le_of_lt hlP)) hlw) hs4
    have hP4 : some P ≠ (Value.slice B4 l4.length b4).ownBlock := fun he => (HW4.out P he.symm).2.2.1 rfl
    have hC4 : some w.heap.size ≠ (Value.slice B4 l4.length b4).ownBlock := fun he => by have := (HW4.out _ he.symm).2.1; omega
    have hfr : ∀ k, W4.heap.size ≤ k → okm k ∧ some k ≠ (Value.slice (some ⟨g, 0, none⟩) l3.length b3).ownBlock := fun k hk => And.intro (hnew k (by omega)) (fun he => by injection (show some k = some g from he) with he; omega)
    have HFR := Aside0.mk hfr
    clear hfr
    refine region_till 13 (fun _ => True) (fun w' : World => w'.cell? ⟨P, 4, none⟩ = some (.slice B4 l4.length b4) ∧ w'.cell? ⟨w.heap.size, 1, none⟩ = some (.int .i64 c1)) (by kernel_rfl) ⟨trivial, ⟨kp4 4, kc4 1⟩⟩ (fun hTU => ?_)
    refine till_take (i := 0) (v := ?_) rfl (by kernel_rfl) (by kernel_rfl) (by kernel_rfl) (by kernel_rfl) (fun _ _ _ h => h) (Or.inl ⟨by rfl, ?_⟩) (by assumption) ?_
    rotate_left
    · (intro w_ hS_; (try dsimp only at hS_); go_simp; try with_reducible rfl)
    try simp only [Act.put, List.setIfInBounds_toArray, List.set_cons_zero, List.set_cons_succ]
    refine till_take (i := 1) (v := ?_) rfl (by kernel_rfl) (by kernel_rfl) (by kernel_rfl) (by kernel_rfl) (fun _ _ _ h => h) (Or.inl ⟨by rfl, ?_⟩) (by assumption) ?_
    rotate_left
    · (intro w_ hS_; (try dsimp only at hS_); go_simp; try with_reducible rfl)
    try simp only [Act.put, List.setIfInBounds_toArray, List.set_cons_zero, List.set_cons_succ]
    refine till_take (i := 2) (v := ?_) rfl (by kernel_rfl) (by kernel_rfl) (by kernel_rfl) (by kernel_rfl) (fun _ _ _ h => h) (Or.inl ⟨by rfl, ?_⟩) (by assumption) ?_
    rotate_left
    · (intro w_ hS_; (try dsimp only at hS_); go_simp; try with_reducible rfl)
    try simp only [Act.put, List.setIfInBounds_toArray, List.set_cons_zero, List.set_cons_succ]
    refine till_take (i := 3) (v := ?_) rfl (by kernel_rfl) (by kernel_rfl) (by kernel_rfl) (by kernel_rfl) (fun _ _ _ h => h) (Or.inl ⟨by rfl, ?_⟩) (by assumption) ?_
    rotate_left
    · (intro w_ hS_; (try dsimp only at hS_); go_simp; try with_reducible rfl)
    try simp only [Act.put, List.setIfInBounds_toArray, List.set_cons_zero, List.set_cons_succ]
    refine till_take (i := 4) (v := ?_) rfl (by kernel_rfl) (by kernel_rfl) (by kernel_rfl) (by kernel_rfl) (fun _ _ _ h => h) (Or.inl ⟨by rfl, ?_⟩) (by assumption) ?_
    rotate_left
    · (intro w_ hS_; (try dsimp only at hS_); go_simp; try with_reducible rfl)
    try simp only [Act.put, List.setIfInBounds_toArray, List.set_cons_zero, List.set_cons_succ]
    refine till_take (i := 5) (v := ?_) rfl (by kernel_rfl) (by kernel_rfl) (by kernel_rfl) (by kernel_rfl) (fun _ _ _ h => h) (Or.inl ⟨by rfl, ?_⟩) (by assumption) ?_
    rotate_left
    · (intro w_ hS_; (try dsimp only at hS_); go_simp; try with_reducible rfl)
    try simp only [Act.put, List.setIfInBounds_toArray, List.set_cons_zero, List.set_cons_succ]
    refine till_take (i := 6) (v := ?_) rfl (by kernel_rfl) (by kernel_rfl) (by kernel_rfl) (by kernel_rfl) (fun _ _ _ h => h) (Or.inl ⟨by rfl, ?_⟩) (by assumption) ?_
    rotate_left
    · (intro w_ hS_; (try dsimp only at hS_); go_simp; try with_reducible rfl)
    try simp only [Act.put, List.setIfInBounds_toArray, List.set_cons_zero, List.set_cons_succ]
    refine till_take (i := 7) (v := ?_) rfl (by kernel_rfl) (by kernel_rfl) (by kernel_rfl) (by kernel_rfl) (fun _ _ _ h => h) (Or.inl ⟨by rfl, ?_⟩) (by assumption) ?_
    rotate_left
    · (intro w_ hS_; (try dsimp only at hS_); go_simp; try with_reducible rfl)
    try simp only [Act.put, List.setIfInBounds_toArray, List.set_cons_zero, List.set_cons_succ]
    refine till_take (i := 8) (v := ?_) rfl (by kernel_rfl) (by kernel_rfl) (by kernel_rfl) (by kernel_rfl) (fun _ _ _ h => h) (Or.inl ⟨by rfl, ?_⟩) (by assumption) ?_
    rotate_left
    · (intro w_ hS_; (try dsimp only at hS_); go_simp; try with_reducible rfl)
    try simp only [Act.put, List.setIfInBounds_toArray, List.set_cons_zero, List.set_cons_succ]
    refine till_one (i := 9) (by kernel_rfl) rfl (fun K hK => ?_)
    go_simp
    refine hK.out _ _ trivial (fun _ _ => ⟨kp4a _ 4, kc4a _ 1⟩) (fun hTV => ?_)
    clear hK K hTU
    have hTU := hTV (by kernel_rfl) (by decide)
    clear hTV
    try simp only [Act.put, List.setIfInBounds_toArray, List.set_cons_zero, List.set_cons_succ]
    refine till_one (i := 10) (by kernel_rfl) rfl (fun K hK => ?_)
    rw [drew_alloc]
    (have HX4 := Aside0.mk (GN_alloc (GN_drew HN7.out) (.cells #[.int .i64 c1, .int .i64 a1] 75)); have kx4 := blk_cell (blk_at (w := W4.drew) (.cells #[.int .i64 c1, .int .i64 a1] 75)); have hsz4 : W4.heap.size ≤ (W4.drew.alloc (.cells #[.int .i64 c1, .int .i64 a1] 75)).heap.size := below_size (below_alloc (below_drew1 (Below.refl W4.heap.size W4)) _); obtain ⟨v7, w7, hr7, hn, hg, hat⟩ := GN_append HX4.out (⟨c1, a1⟩ : S75) W4.drew.heap.size (kx4 0) (kx4 1) (fun k hk => HFR.out k (Nat.le_trans hsz4 hk)) (Nat.le_trans hb4 hsz4) hl4 23; have hb := pw_below_grown (Below.alloc (below_drew1 HB4.out) hb4 (.cells #[.int .i64 c1, .int .i64 a1] 75)) (Value.slice B4 l4.length b4).ownBlock (Nat.le_trans hb4 hsz4) hg (fun k hk => (GN_own HX4.out k hk).1); rw [if_pos (by kernel_rfl)]; refine Lib.wp_append_run _ (.tmp 100) (.tmp 105) 23 23 rfl _ _ rfl rfl _ _ hr7 ?_; have HE7 := Aside0.mk (keeps_grown (keeps_more HE4.out hsw4 (below_alloc (below_drew1 (Below.refl W4.heap.size W4)) (.cells #[.int .i64 c1, .int .i64 a1] 75))) (Nat.le_trans hsw4 hsz4) hg (.inr rfl)); obtain ⟨B7, b7, rfl⟩ := GN_slice hn; rw [List.length_append, List.length_singleton] at hn hat; have HN8 := Aside0.mk hn; have HB7 := Aside0.mk hb; have HP7 := Aside0.mk (blk_grown (blk_later (blk_drew HP4.out) _) hg hP4); have HC7 := Aside0.mk (blk_grown (blk_later (blk_drew HC4.out) _) hg hC4); have HO7 := Aside0.mk (Kd.N_after (Kd.N_alloc (Kd.N_drew HN6.out) _) hg hat); have kp7 := bc0 HP7.out; have kf7 := bf0 HP7.out; have kc7 := bc0 HC7.out; have kt7 := bc0 (blk_far (p := ⟨P, 4, none⟩) HC7.out (Ne.symm hPC) (.slice B7 (l4.length + 1) b7)); have hz7 := blk_lt HP7.out; clear hn hb hg hat hr7 kx4 hsz4 HX4)
    refine hK.out _ _ trivial (fun _ _ => ⟨kp7 4, kc7 1⟩) (fun hTV => ?_)
    clear hK K hTU
    have hTU := hTV (by kernel_rfl) (by decide)
    clear hTV
    try simp only [Act.put, List.setIfInBounds_toArray, List.set_cons_zero, List.set_cons_succ]
    refine till_take (i := 11) (v := ?_) rfl (by kernel_rfl) (by kernel_rfl) (by kernel_rfl) (by kernel_rfl) (fun _ _ _ h => h) (Or.inl ⟨by rfl, ?_⟩) (by assumption) ?_
    rotate_left
    · (intro w_ hS_; (try dsimp only at hS_); go_simp; try with_reducible rfl)
    try simp only [Act.put, List.setIfInBounds_toArray, List.set_cons_zero, List.set_cons_succ]
    refine till_take (i := 12) (v := ?_) rfl (by kernel_rfl) (by kernel_rfl) (by kernel_rfl) (by kernel_rfl) (fun _ _ _ h => h) (Or.inl ⟨by rfl, ?_⟩) (by assumption) ?_
    rotate_left
    · (intro w_ hS_; (try dsimp only at hS_); go_simp; try with_reducible rfl)
    try simp only [Act.put, List.setIfInBounds_toArray, List.set_cons_zero, List.set_cons_succ]
    refine till_one (i := 13) (by kernel_rfl) rfl (fun K hK => ?_)
    go_simp
    refine hK.out _ _ trivial (fun _ h => absurd rfl h) (fun _ => ?_)
    clear hK K hTU
    refine till_done (by kernel_rfl) ?_ _
    all_goals
      obtain ⟨g4, o4, cap4, hv4, hg4, hok4, hg4'⟩ := GN_form HN8.out (by simp)
      injection hv4 with hv41 hv43 hv42
      subst hv41 hv42
      clear hv43
      obtain ⟨x9, hx9⟩ : ∃ x9, (l4 ++ [(⟨c1, a1⟩ : S75)])[0]? = some x9 := ⟨_, List.getElem?_eq_getElem (by simp)⟩
      have q1 : w7.cell? ⟨g4, o4 + 1, none⟩ = some (.int .i64 y) := by
        have h9 := (GN_cells HN8.out hx9).2
        rw [HY.out, List.getD_eq_getElem?_getD, hx9]
        simpa using h9
      clear hx9
      have hcap4 : l4.length + 1 ≤ b7 := by have h9 := (GN_reads (xs := l4 ++ [(⟨c1, a1⟩ : S75)]) (c := b7) (by rw [List.length_append, List.length_singleton]; exact HN8.out)).1; rw [List.length_append, List.length_singleton] at h9; exact h9
      have hg4P : g4 ≠ P := (hok g4 hok4.1).2
      have HG4 := Aside0.mk (And.intro hg4 hg4')
      clear hg4 hg4' hok4
      go_wp2
      have hC9 := Aside0.mk (GN_cut HN8.out)
      have hP9 := blk_put (blk_put (blk_put (blk_put HP7.out 4 (.slice (some ⟨g4, o4, none⟩) (l4.length + 1) b7) rfl) 2 (.int .i64 y) rfl) 4 (.slice (some ⟨g4, o4 + 2, none⟩) l4.length (b7 - 1)) rfl) 1 (.int .i64 (wrap64 (a1 + 1))) rfl
      refine bodyPost_end (v := .tuple #[]) (by simp [results, Tryd.results27, go_sem]) rfl ⟨_, _, rfl, hP9, ?_, ?_, ?_, ?_⟩
      · exact Kd.N_mono (Kd.N_far (Kd.N_far (Kd.N_far (Kd.N_far HO7.out (fun k hk => (hok k hk.1).2) _) (fun k hk => (hok k hk.1).2) _) (fun k hk => (hok k hk.1).2) _) (fun k hk => (hok k hk.1).2) _) (fun k hk => hk)
      · exact GN_far (GN_far (GN_far (GN_far hC9.out (fun k hk => (hok k hk.1).2) _) (fun k hk => (hok k hk.1).2) _) (fun k hk => (hok k hk.1).2) _) (fun k hk => (hok k hk.1).2) _
      · exact below_put (below_put (below_put (below_put HB7.out hbP) hbP) hbP) hbP
      · exact keeps_put (keeps_put (keeps_put (keeps_put HE7.out _ _) _ _) _ _) _ _
  · rw [if_neg cL] at hy ⊢
    obtain rfl : a2 = y := hy.symm
    have cL1 : decide ((400 : Int) < ((l4.length : Int) + 1)) = false := decide_eq_false (by omega)
    subst hk
    obtain ⟨i, hi⟩ : ∃ i : Nat, placeFrom l3 c1 0 = i := ⟨(placeFrom l3 c1 0).toNat, by omega⟩
    have hil : i < l3.length := by rcases placeFrom_range l3 c1 0 with h | h <;> omega
    have hPF : mailbox_Place.f a0 a1 a2 l3 l4 c1 = some (i : Int) := congrArg some hi
    rw [hi, Int.toNat_natCast]
    have HP := Aside0.mk hP
    have H3 := Aside0.mk h3
    have H4 := Aside0.mk h4
    have H5 := Aside0.mk h5
    have H6 := Aside0.mk h6
    have hlP := blk_lt hP
    have n3 := (Kd.N_reads' h3).2.2.2.1
    have hPC : P ≠ w.heap.size := by omega
    have HP1 := Aside0.mk (blk_later hP (.cells #[.int .i64 3, .int .i64 c1, .int .i64 c2, .int .i64 c3, .int .i64 c4, .slice A5 l5.length d5, .slice A6 l6.length d6] 70))
    have HC1 := Aside0.mk (blk_at (w := w) (.cells #[.int .i64 3, .int .i64 c1, .int .i64 c2, .int .i64 c3, .int .i64 c4, .slice A5 l5.length d5, .slice A6 l6.length d6] 70))
    clear hP h3 h4 h5 h6
    have kp1 := bc0 HP1.out
    have kc1 := bc0 HC1.out
    go_enter Tryd.func27, Tryd.ntmps27
    go_wp2
    go_region_held_law (fun w' => w'.cell? ⟨P, 0, none⟩ = some (.int .i64 a0) ∧ w'.cell? ⟨P, 1, none⟩ = some (.int .i64 a1) ∧ w'.cell? ⟨P, 2, none⟩ = some (.int .i64 a2) ∧ w'.cell? ⟨P, 3, none⟩ = some (.slice B3 l3.length b3) ∧ w'.cell? ⟨P, 4, none⟩ = some (.slice B4 l4.length b4) ∧ w'.cell? ⟨w.heap.size, 1, none⟩ = some (.int .i64 c1)) (first | exact ⟨kp1 0, kp1 1, kp1 2, kp1 3, kp1 4, kc1 1⟩ | exact ⟨kp2 0, kp2 1, kp2 2, kp2 3, kp2 4, kc2 1⟩) (first | ((first | go_at_call 26 | (go_simp; go_at_call 26)); (with_reducible refine (mailbox_Place.calls a0 a1 a2 _ _ l3 _ _ l4 c1 (i : Int) _ ?s1 (Kd.N_reads' H3.out).2.1 ?s2 (GN_reads H4.out).1 hPF).mono ?_); (case s1 => exact Kd.C_below (Kd.N_reads' H3.out).2.2 (below_drew1 (below_alloc (Below.refl _ _) _))); (case s2 => exact Kd.C_below (GN_reads H4.out).2 (below_drew1 (below_alloc (Below.refl _ _) _))); rintro e w2 ⟨rfl, hb⟩; have HB2 := Aside0.mk (below_step (below_drew1 (below_alloc (Below.refl w.heap.size w) _)) hb); have HP2 := Aside0.mk (blk_call (blk_drew HP1.out) hb); have HC2 := Aside0.mk (blk_call (blk_drew HC1.out) hb); have kp2 := bc0 HP2.out; have kc2 := bc0 HC2.out; clear hb))
    obtain ⟨g, cap, hv, hg1, hg2, -⟩ := Kd.N_form H3.out (by omega)
    injection hv with hv1 _ hv2
    subst hv1 hv2
    have hgP : g ≠ P := (hok g (H3.out.1 g (by simp [Value.ownBlock])).1).2
    have HN2 := Aside0.mk (Kd.N_below H3.out HB2.out)
    have kpf := bf0 HP2.out
    have hzP := blk_lt HP2.out
    have w1i : IntKind.i64.wrap ((i : Int) + 1) = (i : Int) + 1 := (i64_w _).trans (by unfold wrap64; omega)
    obtain ⟨m, hm⟩ : ∃ m, l3.length = m + 1 := ⟨l3.length - 1, by omega⟩
    have HN2' : Aside0 (Kd.N k55 55 w2 base (fun k_ => okm k_ ∧ some k_ ≠ (Value.slice B4 l4.length b4).ownBlock) (.slice (some ⟨g, 0, none⟩) (m + 1) b3) l3) := ⟨by rw [← hm]; exact HN2.out⟩
    have HN4 := Aside0.mk (GN_below H4.out HB2.out)
    have him : i ≤ m := by omega
    have hlw := below_size HB2.out
    have HW4 : Aside0 (∀ k, (Value.slice B4 l4.length b4).ownBlock = some k → base ≤ k ∧ k < w.heap.size ∧ k ≠ P ∧ k ≠ g) := ⟨fun k hk => ⟨(GN_own H4.out k hk).1, (GN_own H4.out k hk).2.2, (hok k (GN_own H4.out k hk).2.1.1).2, fun he => (GN_own H4.out k hk).2.1.2 (by rw [he]; simp [Value.ownBlock])⟩⟩
    have hPg : some P ≠ some g := fun he => hgP (by injection he with he; exact he.symm)
    have hCg : some w.heap.size ≠ some g := fun he => by injection he with he; omega
    go_wp2_with (first | (go_at_call 48; (with_reducible refine (slices_Delete_Stored.calls _ g m b3 i base l3 _ HN2'.out him).mono ?_); rintro e w3 ⟨rfl, hn, hg⟩; have HN3 := Aside0.mk hn; have HG3 := Aside0.mk hg; have HP3 := Aside0.mk (blk_grown HP2.out hg hPg); have HC3 := Aside0.mk (blk_grown HC2.out hg hCg); have HN5 := Aside0.mk (GN_grown HN4.out hg (fun k hk he => hk.2 (by rw [he]; simp [Value.ownBlock]))); have kp3 := bc0 HP3.out; have kf3 := bf0 HP3.out; have kc3 := bc0 HC3.out; have hz3 := blk_lt HP3.out; have hzc3 := blk_lt HC3.out; clear hn hg))
    have HB3 := Aside0.mk (pw_below_grown (below_less HB2.out (Nat.le_trans hbP (Nat.le_of_lt hlP))) (some g) (Nat.le_trans (Nat.le_trans hbP (Nat.le_of_lt hlP)) hlw) HG3.out (fun k hk => by injection hk with hk; omega))
    have HP4 := Aside0.mk (blk_put HP3.out 3 (.slice (some ⟨g, 0, none⟩) m b3) rfl)
    have HC4 := Aside0.mk (blk_far (p := ⟨P, 3, none⟩) HC3.out (Ne.symm hPC) (.slice (some ⟨g, 0, none⟩) m b3))
    have HN6 := Aside0.mk (Kd.N_far (p := ⟨P, 3, none⟩) HN3.out (fun k hk => (hok k hk.1).2) (.slice (some ⟨g, 0, none⟩) m b3))
    have HN7 := Aside0.mk (GN_far (p := ⟨P, 3, none⟩) HN5.out (fun k hk => (hok k hk.1).2) (.slice (some ⟨g, 0, none⟩) m b3))
    have HB4 := Aside0.mk (below_put (j := 3) (v := .slice (some ⟨g, 0, none⟩) m b3) HB3.out hbP)
    have hs4 : w2.heap.size ≤ (w3.setCell ⟨P, 3, none⟩ (.slice (some ⟨g, 0, none⟩) m b3)).heap.size := by rw [World.size_setCell]; exact HG3.out.size
    have HE4 := Aside0.mk (keeps_put (keeps_grown (P := P) (u3 := some g) (u4 := (Value.slice B4 l4.length b4).ownBlock) (keeps_below HB2.out) hlw HG3.out (.inl rfl)) 3 (.slice (some ⟨g, 0, none⟩) m b3))
    have hsw4 : w.heap.size ≤ (w3.setCell ⟨P, 3, none⟩ (.slice (some ⟨g, 0, none⟩) m b3)).heap.size := Nat.le_trans hlw hs4
    clear HB3 HP3 HC3 HN3 HN5 kp3 kf3 kc3 hz3 hzc3 HG3
    generalize w3.setCell ⟨P, 3, none⟩ (.slice (some ⟨g, 0, none⟩) m b3) = W4 at *
    have kp4 := bc0 HP4.out
    have kc4 := bc0 HC4.out
    have kp4a := bc1 HP4.out
    have kc4a := bc1 HC4.out
    have hu := Tryd.underlying23
    have info : (Tryd.prog.info? 75).map (fun i => (i.zero, i.size, i.bytes)) = some (some (.agg #[.int .i64 0, .int .i64 0]), 2, 16) := by kernel_rfl
    have hb4 : base ≤ W4.heap.size := Nat.le_trans (Nat.le_trans (Nat.le_trans hbP (Nat.le_of_lt hlP)) hlw) hs4
    have hP4 : some P ≠ (Value.slice B4 l4.length b4).ownBlock := fun he => (HW4.out P he.symm).2.2.1 rfl
    have hC4 : some w.heap.size ≠ (Value.slice B4 l4.length b4).ownBlock := fun he => by have := (HW4.out _ he.symm).2.1; omega
    have hfr : ∀ k, W4.heap.size ≤ k → okm k ∧ some k ≠ (Value.slice (some ⟨g, 0, none⟩) l3.length b3).ownBlock := fun k hk => And.intro (hnew k (by omega)) (fun he => by injection (show some k = some g from he) with he; omega)
    have HFR := Aside0.mk hfr
    clear hfr
    refine region_till 13 (fun _ => True) (fun w' : World => w'.cell? ⟨P, 4, none⟩ = some (.slice B4 l4.length b4) ∧ w'.cell? ⟨w.heap.size, 1, none⟩ = some (.int .i64 c1)) (by kernel_rfl) ⟨trivial, ⟨kp4 4, kc4 1⟩⟩ (fun hTU => ?_)
    refine till_take (i := 0) (v := ?_) rfl (by kernel_rfl) (by kernel_rfl) (by kernel_rfl) (by kernel_rfl) (fun _ _ _ h => h) (Or.inl ⟨by rfl, ?_⟩) (by assumption) ?_
    rotate_left
    · (intro w_ hS_; (try dsimp only at hS_); go_simp; try with_reducible rfl)
    try simp only [Act.put, List.setIfInBounds_toArray, List.set_cons_zero, List.set_cons_succ]
    refine till_take (i := 1) (v := ?_) rfl (by kernel_rfl) (by kernel_rfl) (by kernel_rfl) (by kernel_rfl) (fun _ _ _ h => h) (Or.inl ⟨by rfl, ?_⟩) (by assumption) ?_
    rotate_left
    · (intro w_ hS_; (try dsimp only at hS_); go_simp; try with_reducible rfl)
    try simp only [Act.put, List.setIfInBounds_toArray, List.set_cons_zero, List.set_cons_succ]
    refine till_take (i := 2) (v := ?_) rfl (by kernel_rfl) (by kernel_rfl) (by kernel_rfl) (by kernel_rfl) (fun _ _ _ h => h) (Or.inl ⟨by rfl, ?_⟩) (by assumption) ?_
    rotate_left
    · (intro w_ hS_; (try dsimp only at hS_); go_simp; try with_reducible rfl)
    try simp only [Act.put, List.setIfInBounds_toArray, List.set_cons_zero, List.set_cons_succ]
    refine till_take (i := 3) (v := ?_) rfl (by kernel_rfl) (by kernel_rfl) (by kernel_rfl) (by kernel_rfl) (fun _ _ _ h => h) (Or.inl ⟨by rfl, ?_⟩) (by assumption) ?_
    rotate_left
    · (intro w_ hS_; (try dsimp only at hS_); go_simp; try with_reducible rfl)
    try simp only [Act.put, List.setIfInBounds_toArray, List.set_cons_zero, List.set_cons_succ]
    refine till_take (i := 4) (v := ?_) rfl (by kernel_rfl) (by kernel_rfl) (by kernel_rfl) (by kernel_rfl) (fun _ _ _ h => h) (Or.inl ⟨by rfl, ?_⟩) (by assumption) ?_
    rotate_left
    · (intro w_ hS_; (try dsimp only at hS_); go_simp; try with_reducible rfl)
    try simp only [Act.put, List.setIfInBounds_toArray, List.set_cons_zero, List.set_cons_succ]
    refine till_take (i := 5) (v := ?_) rfl (by kernel_rfl) (by kernel_rfl) (by kernel_rfl) (by kernel_rfl) (fun _ _ _ h => h) (Or.inl ⟨by rfl, ?_⟩) (by assumption) ?_
    rotate_left
    · (intro w_ hS_; (try dsimp only at hS_); go_simp; try with_reducible rfl)
    try simp only [Act.put, List.setIfInBounds_toArray, List.set_cons_zero, List.set_cons_succ]
    refine till_take (i := 6) (v := ?_) rfl (by kernel_rfl) (by kernel_rfl) (by kernel_rfl) (by kernel_rfl) (fun _ _ _ h => h) (Or.inl ⟨by rfl, ?_⟩) (by assumption) ?_
    rotate_left
    · (intro w_ hS_; (try dsimp only at hS_); go_simp; try with_reducible rfl)
    try simp only [Act.put, List.setIfInBounds_toArray, List.set_cons_zero, List.set_cons_succ]
    refine till_take (i := 7) (v := ?_) rfl (by kernel_rfl) (by kernel_rfl) (by kernel_rfl) (by kernel_rfl) (fun _ _ _ h => h) (Or.inl ⟨by rfl, ?_⟩) (by assumption) ?_
    rotate_left
    · (intro w_ hS_; (try dsimp only at hS_); go_simp; try with_reducible rfl)
    try simp only [Act.put, List.setIfInBounds_toArray, List.set_cons_zero, List.set_cons_succ]
    refine till_take (i := 8) (v := ?_) rfl (by kernel_rfl) (by kernel_rfl) (by kernel_rfl) (by kernel_rfl) (fun _ _ _ h => h) (Or.inl ⟨by rfl, ?_⟩) (by assumption) ?_
    rotate_left
    · (intro w_ hS_; (try dsimp only at hS_); go_simp; try with_reducible rfl)
    try simp only [Act.put, List.setIfInBounds_toArray, List.set_cons_zero, List.set_cons_succ]
    refine till_one (i := 9) (by kernel_rfl) rfl (fun K hK => ?_)
    go_simp
    refine hK.out _ _ trivial (fun _ _ => ⟨kp4a _ 4, kc4a _ 1⟩) (fun hTV => ?_)
    clear hK K hTU
    have hTU := hTV (by kernel_rfl) (by decide)
    clear hTV
    try simp only [Act.put, List.setIfInBounds_toArray, List.set_cons_zero, List.set_cons_succ]
    refine till_one (i := 10) (by kernel_rfl) rfl (fun K hK => ?_)
    rw [drew_alloc]
    (have HX4 := Aside0.mk (GN_alloc (GN_drew HN7.out) (.cells #[.int .i64 c1, .int .i64 a1] 75)); have kx4 := blk_cell (blk_at (w := W4.drew) (.cells #[.int .i64 c1, .int .i64 a1] 75)); have hsz4 : W4.heap.size ≤ (W4.drew.alloc (.cells #[.int .i64 c1, .int .i64 a1] 75)).heap.size := below_size (below_alloc (below_drew1 (Below.refl W4.heap.size W4)) _); obtain ⟨v7, w7, hr7, hn, hg, hat⟩ := GN_append HX4.out (⟨c1, a1⟩ : S75) W4.drew.heap.size (kx4 0) (kx4 1) (fun k hk => HFR.out k (Nat.le_trans hsz4 hk)) (Nat.le_trans hb4 hsz4) hl4 23; have hb := pw_below_grown (Below.alloc (below_drew1 HB4.out) hb4 (.cells #[.int .i64 c1, .int .i64 a1] 75)) (Value.slice B4 l4.length b4).ownBlock (Nat.le_trans hb4 hsz4) hg (fun k hk => (GN_own HX4.out k hk).1); rw [if_pos (by kernel_rfl)]; refine Lib.wp_append_run _ (.tmp 100) (.tmp 105) 23 23 rfl _ _ rfl rfl _ _ hr7 ?_; have HE7 := Aside0.mk (keeps_grown (keeps_more HE4.out hsw4 (below_alloc (below_drew1 (Below.refl W4.heap.size W4)) (.cells #[.int .i64 c1, .int .i64 a1] 75))) (Nat.le_trans hsw4 hsz4) hg (.inr rfl)); obtain ⟨B7, b7, rfl⟩ := GN_slice hn; rw [List.length_append, List.length_singleton] at hn hat; have HN8 := Aside0.mk hn; have HB7 := Aside0.mk hb; have HP7 := Aside0.mk (blk_grown (blk_later (blk_drew HP4.out) _) hg hP4); have HC7 := Aside0.mk (blk_grown (blk_later (blk_drew HC4.out) _) hg hC4); have HO7 := Aside0.mk (Kd.N_after (Kd.N_alloc (Kd.N_drew HN6.out) _) hg hat); have kp7 := bc0 HP7.out; have kf7 := bf0 HP7.out; have kc7 := bc0 HC7.out; have kt7 := bc0 (blk_far (p := ⟨P, 4, none⟩) HC7.out (Ne.symm hPC) (.slice B7 (l4.length + 1) b7)); have hz7 := blk_lt HP7.out; clear hn hb hg hat hr7 kx4 hsz4 HX4)
    refine hK.out _ _ trivial (fun _ _ => ⟨kp7 4, kc7 1⟩) (fun hTV => ?_)
    clear hK K hTU
    have hTU := hTV (by kernel_rfl) (by decide)
    clear hTV
    try simp only [Act.put, List.setIfInBounds_toArray, List.set_cons_zero, List.set_cons_succ]
    refine till_take (i := 11) (v := ?_) rfl (by kernel_rfl) (by kernel_rfl) (by kernel_rfl) (by kernel_rfl) (fun _ _ _ h => h) (Or.inl ⟨by rfl, ?_⟩) (by assumption) ?_
    rotate_left
    · (intro w_ hS_; (try dsimp only at hS_); go_simp; try with_reducible rfl)
    try simp only [Act.put, List.setIfInBounds_toArray, List.set_cons_zero, List.set_cons_succ]
    refine till_take (i := 12) (v := ?_) rfl (by kernel_rfl) (by kernel_rfl) (by kernel_rfl) (by kernel_rfl) (fun _ _ _ h => h) (Or.inl ⟨by rfl, ?_⟩) (by assumption) ?_
    rotate_left
    · (intro w_ hS_; (try dsimp only at hS_); go_simp; try with_reducible rfl)
    try simp only [Act.put, List.setIfInBounds_toArray, List.set_cons_zero, List.set_cons_succ]
    refine till_one (i := 13) (by kernel_rfl) rfl (fun K hK => ?_)
    go_simp
    refine hK.out _ _ trivial (fun _ h => absurd rfl h) (fun _ => ?_)
    clear hK K hTU
    refine till_done (by kernel_rfl) ?_ _
    all_goals
      go_wp2
      have hP9 := blk_put (blk_put HP7.out 4 (.slice B7 (l4.length + 1) b7) rfl) 1 (.int .i64 (wrap64 (a1 + 1))) rfl
      refine bodyPost_end (v := .tuple #[]) (by simp [results, Tryd.results27, go_sem]) rfl ⟨_, _, rfl, hP9, ?_, ?_, ?_, ?_⟩
      · exact Kd.N_far (p := ⟨P, 1, none⟩) (Kd.N_far (p := ⟨P, 4, none⟩) HO7.out (fun k hk => (hok k hk.1).2) _) (fun k hk => (hok k hk.1).2) _
      · exact GN_far (p := ⟨P, 1, none⟩) (GN_far (p := ⟨P, 4, none⟩) HN8.out (fun k hk => (hok k hk.1).2) _) (fun k hk => (hok k hk.1).2) _
      · exact below_put (below_put HB7.out hbP) hbP
      · exact keeps_put (keeps_put HE7.out _ _) _ _
/-- What a possible change makes of a mailbox. -/
def mailbox_Do.m (a0 a1 a2 : Int) (l3 : List (S55)) (l4 : List (S75)) (c0 c1 c2 c3 c4 : Int) (l5 : List (S98)) (l6 : List Int) : Int × Int × Int × (List (S55)) × (List (S75)) :=
  if c0 = 1 then (wrap64 (a0 + 1), wrap64 (a1 + 1), a2, l3 ++ [⟨a0, a1, c2, c4, ⟨l5, l6⟩⟩], l4)
  else if c0 = 2 then
    (if Go.bits .or .i64 (Go.bits .andNot .i64 (l3.getD (placeFrom l3 c1 0).toNat z55).f2 c3) c2 = (l3.getD (placeFrom l3 c1 0).toNat z55).f2 then (a0, a1, a2, l3, l4)
     else (a0, wrap64 (a1 + 1), a2, l3.set (placeFrom l3 c1 0).toNat ⟨(l3.getD (placeFrom l3 c1 0).toNat z55).f0, a1, Go.bits .or .i64 (Go.bits .andNot .i64 (l3.getD (placeFrom l3 c1 0).toNat z55).f2 c3) c2, (l3.getD (placeFrom l3 c1 0).toNat z55).f3, (l3.getD (placeFrom l3 c1 0).toNat z55).f4⟩, l4))
  else (a0, wrap64 (a1 + 1), if 400 < (l4 ++ [(⟨c1, a1⟩ : S75)]).length then ((l4 ++ [(⟨c1, a1⟩ : S75)]).getD 0 z75).f1 else a2, l3.eraseIdx (placeFrom l3 c1 0).toNat, if 400 < (l4 ++ [(⟨c1, a1⟩ : S75)]).length then (l4 ++ [(⟨c1, a1⟩ : S75)]).drop 1 else l4 ++ [(⟨c1, a1⟩ : S75)])
set_option maxHeartbeats 8000000 in
set_option maxRecDepth 100000 in
theorem mailbox_DoS.calls (P base : Nat) (a0 a1 a2 : Int) (B3 : Option Addr) (b3 : Nat) (l3 : List (S55)) (B4 : Option Addr) (b4 : Nat) (l4 : List (S75)) (c0 c1 c2 c3 c4 : Int) (okc : Nat → Prop) (A5 : Option Addr) (d5 : Nat) (l5 : List (S98)) (A6 : Option Addr) (d6 : Nat) (l6 : List Int) (w : World) (okm : Nat → Prop) (hok : ∀ k, okm k → base ≤ k ∧ k ≠ P) (hnew : ∀ k, w.heap.size ≤ k → okm k) (hP : w.heap[P]? = some (.cells #[.int .i64 a0, .int .i64 a1, .int .i64 a2, .slice B3 l3.length b3, .slice B4 l4.length b4] 25 (0, 0))) (hbP : base ≤ P) (h3 : Kd.N k55 55 w base (fun k_ => okm k_ ∧ some k_ ≠ (Value.slice B4 l4.length b4).ownBlock) (.slice B3 l3.length b3) l3) (h4 : GN w base (fun k_ => okm k_ ∧ some k_ ≠ (Value.slice B3 l3.length b3).ownBlock) (.slice B4 l4.length b4) l4) (h5 : Kd.F k98 w okc A5 l5.length l5) (e5 : l5.length ≤ d5) (h6 : Kd.F (Kd.int .u8) w okc A6 l6.length l6) (e6 : l6.length ≤ d6) (hk : c0 = 2 ∨ c0 = 3) (hp : 0 ≤ placeFrom l3 c1 0) (hl4 : (l4.length + 1) * 16 ≤ 140737488355328) (r1 r2 r3 : Int) (r4 : List (S55)) (r5 : List (S75)) (hm : mailbox_Do.m a0 a1 a2 l3 l4 c0 c1 c2 c3 c4 l5 l6 = (r1, r2, r3, r4, r5)) :
    Calls Tryd.prog 27 #[.pointer (some ⟨P, 0, none⟩), .agg #[.int .i64 c0, .int .i64 c1, .int .i64 c2, .int .i64 c3, .int .i64 c4, .slice A5 l5.length d5, .slice A6 l6.length d6]] w fun e w' => ∃ v3 v4, e = .returned (.tuple #[]) ∧ w'.heap[P]? = some (.cells #[.int .i64 r1, .int .i64 r2, .int .i64 r3, v3, v4] 25 (0, 0)) ∧ Kd.N k55 55 w' base (fun k_ => okm k_ ∧ some k_ ≠ v4.ownBlock) v3 (r4) ∧ GN w' base (fun k_ => okm k_ ∧ some k_ ≠ v3.ownBlock) v4 (r5) ∧ Below base w w' ∧ Keeps P (Value.slice B3 l3.length b3).ownBlock (Value.slice B4 l4.length b4).ownBlock w w' := by
  unfold mailbox_Do.m at hm
  rw [if_neg (show ¬ c0 = 1 by omega)] at hm
  by_cases k2 : c0 = 2
  · rw [if_pos k2] at hm
    have hil : (placeFrom l3 c1 0).toNat < l3.length := by rcases placeFrom_range l3 c1 0 with h | h <;> omega
    have h2 := mailbox_Do2.calls P base a0 a1 a2 B3 b3 l3 B4 b4 l4 c0 c1 c2 c3 c4 okc A5 d5 l5 A6 d6 l6 w okm hok hnew hP hbP h3 h4 h5 e5 h6 e6 k2 hp (l3.getD (placeFrom l3 c1 0).toNat z55) (getD_some _ hil) _ rfl
    generalize l3.getD (placeFrom l3 c1 0).toNat z55 = x at *
    generalize Go.bits .or .i64 (Go.bits .andNot .i64 x.f2 c3) c2 = n at *
    by_cases hn : n = x.f2
    · rw [if_pos hn] at hm
      rw [if_pos hn, if_pos hn] at h2
      simp only [Prod.mk.injEq] at hm
      obtain ⟨rfl, rfl, rfl, rfl, rfl⟩ := hm
      exact h2
    · rw [if_neg hn] at hm
      rw [if_neg hn, if_neg hn] at h2
      simp only [Prod.mk.injEq] at hm
      obtain ⟨rfl, rfl, rfl, rfl, rfl⟩ := hm
      exact h2
  · rw [if_neg k2] at hm
    simp only [Prod.mk.injEq] at hm
    obtain ⟨rfl, rfl, h9, rfl, rfl⟩ := hm
    exact mailbox_Do3.calls P base _ a1 a2 B3 b3 l3 B4 b4 l4 c0 c1 c2 c3 c4 okc A5 d5 l5 A6 d6 l6 w okm hok hnew hP hbP h3 h4 h5 e5 h6 e6 (by omega) hp hl4 r3 h9.symm
set_option maxHeartbeats 8000000 in
set_option maxRecDepth 100000 in
theorem mailbox_Do.calls (P base : Nat) (a0 a1 a2 : Int) (B3 : Option Addr) (b3 : Nat) (l3 : List (S55)) (B4 : Option Addr) (b4 : Nat) (l4 : List (S75)) (c0 c1 c2 c3 c4 : Int) (okc : Nat → Prop) (A5 : Option Addr) (d5 : Nat) (l5 : List (S98)) (A6 : Option Addr) (d6 : Nat) (l6 : List Int) (w : World) (hP : w.heap[P]? = some (.cells #[.int .i64 a0, .int .i64 a1, .int .i64 a2, .slice B3 l3.length b3, .slice B4 l4.length b4] 25 (0, 0))) (hbP : base ≤ P) (h3 : Kd.N k55 55 w base (fun k_ => (base ≤ k_ ∧ k_ ≠ P) ∧ some k_ ≠ (Value.slice B4 l4.length b4).ownBlock) (.slice B3 l3.length b3) l3) (h4 : Kd.N k75 75 w base (fun k_ => (base ≤ k_ ∧ k_ ≠ P) ∧ some k_ ≠ (Value.slice B3 l3.length b3).ownBlock) (.slice B4 l4.length b4) l4) (h5 : Kd.F k98 w okc A5 l5.length l5) (e5 : l5.length ≤ d5) (h6 : Kd.F (Kd.int .u8) w okc A6 l6.length l6) (e6 : l6.length ≤ d6) (hk : inB c0 1 3 = true) (hp : c0 = 1 ∨ 0 ≤ placeFrom l3 c1 0) (hl3 : (l3.length + 1) * 80 ≤ 140737488355328) (hl4 : (l4.length + 1) * 16 ≤ 140737488355328) (hl5 : l5.length * 32 ≤ 140737488355328) (hl6 : l6.length * 1 ≤ 140737488355328) (r1 r2 r3 : Int) (r4 : List (S55)) (r5 : List (S75)) (hm : mailbox_Do.m a0 a1 a2 l3 l4 c0 c1 c2 c3 c4 l5 l6 = (r1, r2, r3, r4, r5)) :
    Calls Tryd.prog 27 #[.pointer (some ⟨P, 0, none⟩), .agg #[.int .i64 c0, .int .i64 c1, .int .i64 c2, .int .i64 c3, .int .i64 c4, .slice A5 l5.length d5, .slice A6 l6.length d6]] w fun e w' => ∃ v3 v4, e = .returned (.tuple #[]) ∧ w'.heap[P]? = some (.cells #[.int .i64 r1, .int .i64 r2, .int .i64 r3, v3, v4] 25 (0, 0)) ∧ Kd.V k55 55 w' base (fun k_ => base ≤ k_ ∧ k_ ≠ P) v3 (r4) ∧ Kd.V k75 75 w' base (fun k_ => base ≤ k_ ∧ k_ ≠ P) v4 (r5) ∧ Below base w w' := by
  unfold mailbox_Do.m at hm
  have hk := inB_iff.1 hk
  by_cases k1 : c0 = 1
  · rw [if_pos k1] at hm
    simp only [Prod.mk.injEq] at hm
    obtain ⟨rfl, rfl, rfl, rfl, rfl⟩ := hm
    exact mailbox_Do1.calls P base _ _ _ B3 b3 l3 B4 b4 _ c0 c1 c2 c3 c4 okc A5 d5 l5 A6 d6 l6 w hP hbP h3 h4 h5 e5 h6 e6 k1 hl3 hl5 hl6
  refine (mailbox_DoS.calls P base a0 a1 a2 B3 b3 l3 B4 b4 l4 c0 c1 c2 c3 c4 okc A5 d5 l5 A6 d6 l6 w (fun k_ => base ≤ k_ ∧ k_ ≠ P) (fun _ h => h) (fun k hk => by have := blk_lt hP; omega) hP hbP h3 (N_GN h4) h5 e5 h6 e6 (by omega) (hp.resolve_left k1) hl4 r1 r2 r3 r4 r5 (by unfold mailbox_Do.m; exact hm)).mono ?_
  rintro e w' ⟨v3, v4, rfl, hP', h3', h4', hb, -⟩
  exact ⟨v3, v4, rfl, hP', Kd.V_mono (Kd.N_V h3') (fun k hk => hk.1), Kd.V_mono (GN_V h4') (fun k hk => hk.1), hb⟩


end Go.Proofs.YtbnmddippoiabaaDoor.P
