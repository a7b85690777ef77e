/- Functions of this seat as Lean functions, and that the Go code comes to their answers: written by a program of this session's. -/
import Derived.Test.YtbnmddippoiabaaDoorO6x10
namespace Go.Proofs.YtbnmddippoiabaaDoor.P
open Go.RowKit Go.Proofs.YtbnmddippoiabaaDoorW.PrintWords Go.Proofs.YtbnmddippoiabaaDoorW.PrintLast Go.Proofs.YtbnmddippoiabaaDoorW.PrintMore
attribute [local go_sem] max2_int min2_int max_two min_two max_three min_three max_four min_four   -- for this text's walks alone
set_option linter.unusedVariables false
set_option linter.unusedSimpArgs false

/-! ### mailbox_Clone: function 24 -/
set_option maxHeartbeats 1000000 in
set_option maxRecDepth 100000 in
theorem clone_Stored (ok : Nat → Prop) (A : Option Addr) (c : Nat) (l : List (S55)) (w : World) (hr : Kd.F k55 w ok A l.length l) (hc : l.length ≤ c) (hl : l.length * 80 ≤ 140737488355328) :
    Calls Tryd.prog 43 #[.slice A l.length c] w fun e w' => ∃ v_, e = .returned v_ ∧ Kd.N k55 55 w' w.heap.size (fun k_ => (ok k_ ∧ k_ < w.heap.size) ∨ w.heap.size ≤ k_) v_ l ∧ Below w.heap.size w w' := by
  have hu := Tryd.underlying22
  have info : (Tryd.prog.info? 55).map (fun i => (i.zero, i.size, i.bytes)) = some (some (.agg #[.int .i64 0, .int .i64 0, .int .i64 0, .int .i64 0, .slice none 0 0, .slice none 0 0]), 6, 80) := by kernel_rfl
  cases A with
  | none =>
    have h0 : l = [] := by
      have h1 := (Kd.F_now hr).2.2
      by_cases h2 : 0 < l.length
      · obtain ⟨ad, h3, -⟩ := h1 h2
        cases h3
      · exact List.eq_nil_of_length_eq_zero (by omega)
    subst h0
    clear hr info
    have hq := fun (wx : World) (n' c' : Nat) => Lib.run_eql_slice_nil (P := Tryd.prog) wx 22 55 none n' c' 0 0 hu
    go_enter Tryd.func43, Tryd.ntmps43
    go_wp2
    go_ret
    exact ⟨_, rfl, Kd.N_nil _ _ _ _ _, Below.refl _ _⟩
  | some ad =>
    have HR := Aside0.mk (Kd.F_bound hr)
    clear hr
    have hq := fun (wx : World) (n' c' : Nat) => Lib.run_eql_slice_nil (P := Tryd.prog) wx 22 55 (some ad) n' c' 0 0 hu
    go_enter Tryd.func43, Tryd.ntmps43
    go_wp2_with (first | ((with_reducible refine gate_dst (N := 5) rfl ?_); refine Kd.N_lit k55 (w0 := w) w.heap.size 55 ?hg (N' := 5) ?hd (xs := ([] : List (S55))) (inner := []) (ok := fun k_ => (ok k_ ∧ k_ < w.heap.size) ∨ w.heap.size ≤ k_) (okp := fun _ => False) ?hr ?hp (fun _ hk => hk.elim) (.inr (Nat.le_refl _)) (Below.refl _ _) (Nat.le_refl _) (by simp) ?_; (case hd => rfl); (case hg => rfl); (case hr => first | (go_simp; done) | (go_simp; rfl)); (case hp => exact Reps.none _ _); intro v1 w1 hn hb hg hat; have HN := Aside0.mk hn; have HB := Aside0.mk hb; have HT := Aside0.mk hat; clear hn hb hg hat) | ((with_reducible refine gate_builtin (b := .append) (xs := #[.tmp 5, .tmp 6]) rfl ?_); at_builtin; refine Kd.N_append_rows k55 (w0 := w) w.heap.size rfl (.tmp 5) (.tmp 6) 22 55 (.agg #[.int .i64 0, .int .i64 0, .int .i64 0, .int .i64 0, .slice none 0 0, .slice none 0 0]) 80 rfl Tryd.underlying22 info rfl (by decide) (by omega) v1 ([] : List (S55)) l _ _ _ (fun k_ => (ok k_ ∧ k_ < w.heap.size) ∨ w.heap.size ≤ k_) (fun k_ => ok k_ ∧ k_ < w.heap.size) rfl rfl HN.out (Kd.F_below HR.out HB.out) (fun k_ hk => ⟨.inl hk, by obtain ⟨b, hb1, hb2⟩ := HT.out; rw [hb1]; intro he; injection he with he; have := hk.2; omega⟩) (fun k_ hk => .inr (Nat.le_trans (below_size HB.out) hk)) HB.out (below_size HB.out) (by rw [List.length_nil, Nat.zero_add]; exact hl) ?_; intro v2 w2 hn hb hg hat; have HN2 := Aside0.mk hn; have HB2 := Aside0.mk hb; clear hn hb hg hat))
    go_ret
    exact ⟨_, rfl, HN2.out, HB2.out⟩
set_option maxHeartbeats 1000000 in
set_option maxRecDepth 100000 in
theorem clone_Gone (ok : Nat → Prop) (A : Option Addr) (c : Nat) (l : List (S75)) (w : World) (hr : Kd.F k75 w ok A l.length l) (hc : l.length ≤ c) (hl : l.length * 16 ≤ 140737488355328) :
    Calls Tryd.prog 44 #[.slice A l.length c] w fun e w' => ∃ v_, e = .returned v_ ∧ Kd.N k75 75 w' w.heap.size (fun k_ => (ok k_ ∧ k_ < w.heap.size) ∨ w.heap.size ≤ k_) v_ l ∧ Below w.heap.size w w' := by
  have hu := Tryd.underlying23
  have info : (Tryd.prog.info? 75).map (fun i => (i.zero, i.size, i.bytes)) = some (some (.agg #[.int .i64 0, .int .i64 0]), 2, 16) := by kernel_rfl
  cases A with
  | none =>
    have h0 : l = [] := by
      have h1 := (Kd.F_now hr).2.2
      by_cases h2 : 0 < l.length
      · obtain ⟨ad, h3, -⟩ := h1 h2
        cases h3
      · exact List.eq_nil_of_length_eq_zero (by omega)
    subst h0
    clear hr info
    have hq := fun (wx : World) (n' c' : Nat) => Lib.run_eql_slice_nil (P := Tryd.prog) wx 23 75 none n' c' 0 0 hu
    go_enter Tryd.func44, Tryd.ntmps44
    go_wp2
    go_ret
    exact ⟨_, rfl, Kd.N_nil _ _ _ _ _, Below.refl _ _⟩
  | some ad =>
    have HR := Aside0.mk (Kd.F_bound hr)
    clear hr
    have hq := fun (wx : World) (n' c' : Nat) => Lib.run_eql_slice_nil (P := Tryd.prog) wx 23 75 (some ad) n' c' 0 0 hu
    go_enter Tryd.func44, Tryd.ntmps44
    go_wp2_with (first | ((with_reducible refine gate_dst (N := 5) rfl ?_); refine Kd.N_lit k75 (w0 := w) w.heap.size 75 ?hg (N' := 5) ?hd (xs := ([] : List (S75))) (inner := []) (ok := fun k_ => (ok k_ ∧ k_ < w.heap.size) ∨ w.heap.size ≤ k_) (okp := fun _ => False) ?hr ?hp (fun _ hk => hk.elim) (.inr (Nat.le_refl _)) (Below.refl _ _) (Nat.le_refl _) (by simp) ?_; (case hd => rfl); (case hg => rfl); (case hr => first | (go_simp; done) | (go_simp; rfl)); (case hp => exact Reps.none _ _); intro v1 w1 hn hb hg hat; have HN := Aside0.mk hn; have HB := Aside0.mk hb; have HT := Aside0.mk hat; clear hn hb hg hat) | ((with_reducible refine gate_builtin (b := .append) (xs := #[.tmp 5, .tmp 6]) rfl ?_); at_builtin; refine Kd.N_append_rows k75 (w0 := w) w.heap.size rfl (.tmp 5) (.tmp 6) 23 75 (.agg #[.int .i64 0, .int .i64 0]) 16 rfl Tryd.underlying23 info rfl (by decide) (by omega) v1 ([] : List (S75)) l _ _ _ (fun k_ => (ok k_ ∧ k_ < w.heap.size) ∨ w.heap.size ≤ k_) (fun k_ => ok k_ ∧ k_ < w.heap.size) rfl rfl HN.out (Kd.F_below HR.out HB.out) (fun k_ hk => ⟨.inl hk, by obtain ⟨b, hb1, hb2⟩ := HT.out; rw [hb1]; intro he; injection he with he; have := hk.2; omega⟩) (fun k_ hk => .inr (Nat.le_trans (below_size HB.out) hk)) HB.out (below_size HB.out) (by rw [List.length_nil, Nat.zero_add]; exact hl) ?_; intro v2 w2 hn hb hg hat; have HN2 := Aside0.mk hn; have HB2 := Aside0.mk hb; clear hn hb hg hat))
    go_ret
    exact ⟨_, rfl, HN2.out, HB2.out⟩
set_option maxHeartbeats 1000000 in
set_option maxRecDepth 100000 in
theorem clone_Field (ok : Nat → Prop) (A : Option Addr) (c : Nat) (l : List (S98)) (w : World) (hr : Kd.F k98 w ok A l.length l) (hc : l.length ≤ c) (hl : l.length * 32 ≤ 140737488355328) :
    Calls Tryd.prog 63 #[.slice A l.length c] w fun e w' => ∃ v_, e = .returned v_ ∧ Kd.N k98 98 w' w.heap.size (fun k_ => (ok k_ ∧ k_ < w.heap.size) ∨ w.heap.size ≤ k_) v_ l ∧ Below w.heap.size w w' := by
  have hu := Tryd.underlying50
  have info : (Tryd.prog.info? 98).map (fun i => (i.zero, i.size, i.bytes)) = some (some (.agg #[.string ⟨#[]⟩, .string ⟨#[]⟩]), 2, 32) := by kernel_rfl
  cases A with
  | none =>
    have h0 : l = [] := by
      have h1 := (Kd.F_now hr).2.2
      by_cases h2 : 0 < l.length
      · obtain ⟨ad, h3, -⟩ := h1 h2
        cases h3
      · exact List.eq_nil_of_length_eq_zero (by omega)
    subst h0
    clear hr info
    have hq := fun (wx : World) (n' c' : Nat) => Lib.run_eql_slice_nil (P := Tryd.prog) wx 50 98 none n' c' 0 0 hu
    go_enter Tryd.func63, Tryd.ntmps63
    go_wp2
    go_ret
    exact ⟨_, rfl, Kd.N_nil _ _ _ _ _, Below.refl _ _⟩
  | some ad =>
    have HR := Aside0.mk (Kd.F_bound hr)
    clear hr
    have hq := fun (wx : World) (n' c' : Nat) => Lib.run_eql_slice_nil (P := Tryd.prog) wx 50 98 (some ad) n' c' 0 0 hu
    go_enter Tryd.func63, Tryd.ntmps63
    go_wp2_with (first | ((with_reducible refine gate_dst (N := 5) rfl ?_); refine Kd.N_lit k98 (w0 := w) w.heap.size 98 ?hg (N' := 5) ?hd (xs := ([] : List (S98))) (inner := []) (ok := fun k_ => (ok k_ ∧ k_ < w.heap.size) ∨ w.heap.size ≤ k_) (okp := fun _ => False) ?hr ?hp (fun _ hk => hk.elim) (.inr (Nat.le_refl _)) (Below.refl _ _) (Nat.le_refl _) (by simp) ?_; (case hd => rfl); (case hg => rfl); (case hr => first | (go_simp; done) | (go_simp; rfl)); (case hp => exact Reps.none _ _); intro v1 w1 hn hb hg hat; have HN := Aside0.mk hn; have HB := Aside0.mk hb; have HT := Aside0.mk hat; clear hn hb hg hat) | ((with_reducible refine gate_builtin (b := .append) (xs := #[.tmp 5, .tmp 6]) rfl ?_); at_builtin; refine Kd.N_append_rows k98 (w0 := w) w.heap.size rfl (.tmp 5) (.tmp 6) 50 98 (.agg #[.string ⟨#[]⟩, .string ⟨#[]⟩]) 32 rfl Tryd.underlying50 info rfl (by decide) (by omega) v1 ([] : List (S98)) l _ _ _ (fun k_ => (ok k_ ∧ k_ < w.heap.size) ∨ w.heap.size ≤ k_) (fun k_ => ok k_ ∧ k_ < w.heap.size) rfl rfl HN.out (Kd.F_below HR.out HB.out) (fun k_ hk => ⟨.inl hk, by obtain ⟨b, hb1, hb2⟩ := HT.out; rw [hb1]; intro he; injection he with he; have := hk.2; omega⟩) (fun k_ hk => .inr (Nat.le_trans (below_size HB.out) hk)) HB.out (below_size HB.out) (by rw [List.length_nil, Nat.zero_add]; exact hl) ?_; intro v2 w2 hn hb hg hat; have HN2 := Aside0.mk hn; have HB2 := Aside0.mk hb; clear hn hb hg hat))
    go_ret
    exact ⟨_, rfl, HN2.out, HB2.out⟩
set_option maxHeartbeats 1000000 in
set_option maxRecDepth 100000 in
theorem clone_bytes (ok : Nat → Prop) (A : Option Addr) (c : Nat) (l : List (Int)) (w : World) (hr : Kd.F (Kd.int .u8) w ok A l.length l) (hc : l.length ≤ c) (hl : l.length * 1 ≤ 140737488355328) :
    Calls Tryd.prog 64 #[.slice A l.length c] w fun e w' => ∃ v_, e = .returned v_ ∧ Kd.N (Kd.int .u8) 5 w' w.heap.size (fun k_ => (ok k_ ∧ k_ < w.heap.size) ∨ w.heap.size ≤ k_) v_ l ∧ Below w.heap.size w w' := by
  have hu := Tryd.underlying51
  have info : (Tryd.prog.info? 5).map (fun i => (i.zero, i.size, i.bytes)) = some (some (.int .u8 0), 1, 1) := by kernel_rfl
  cases A with
  | none =>
    have h0 : l = [] := by
      have h1 := (Kd.F_now hr).2.2
      by_cases h2 : 0 < l.length
      · obtain ⟨ad, h3, -⟩ := h1 h2
        cases h3
      · exact List.eq_nil_of_length_eq_zero (by omega)
    subst h0
    clear hr info
    have hq := fun (wx : World) (n' c' : Nat) => Lib.run_eql_slice_nil (P := Tryd.prog) wx 51 5 none n' c' 0 0 hu
    go_enter Tryd.func64, Tryd.ntmps64
    go_wp2
    go_ret
    exact ⟨_, rfl, Kd.N_nil _ _ _ _ _, Below.refl _ _⟩
  | some ad =>
    have HR := Aside0.mk (Kd.F_bound hr)
    clear hr
    have hq := fun (wx : World) (n' c' : Nat) => Lib.run_eql_slice_nil (P := Tryd.prog) wx 51 5 (some ad) n' c' 0 0 hu
    go_enter Tryd.func64, Tryd.ntmps64
    go_wp2_with (first | ((with_reducible refine gate_dst (N := 5) rfl ?_); refine Kd.N_lit (Kd.int .u8) (w0 := w) w.heap.size 5 ?hg (N' := 5) ?hd (xs := ([] : List (Int))) (inner := []) (ok := fun k_ => (ok k_ ∧ k_ < w.heap.size) ∨ w.heap.size ≤ k_) (okp := fun _ => False) ?hr ?hp (fun _ hk => hk.elim) (.inr (Nat.le_refl _)) (Below.refl _ _) (Nat.le_refl _) (by simp) ?_; (case hd => rfl); (case hg => rfl); (case hr => first | (go_simp; done) | (go_simp; rfl)); (case hp => exact Reps.none _ _); intro v1 w1 hn hb hg hat; have HN := Aside0.mk hn; have HB := Aside0.mk hb; have HT := Aside0.mk hat; clear hn hb hg hat) | ((with_reducible refine gate_builtin (b := .append) (xs := #[.tmp 5, .tmp 6]) rfl ?_); at_builtin; refine Kd.N_append_rows (Kd.int .u8) (w0 := w) w.heap.size rfl (.tmp 5) (.tmp 6) 51 5 (.int .u8 0) 1 rfl Tryd.underlying51 info rfl (by decide) (by omega) v1 ([] : List (Int)) l _ _ _ (fun k_ => (ok k_ ∧ k_ < w.heap.size) ∨ w.heap.size ≤ k_) (fun k_ => ok k_ ∧ k_ < w.heap.size) rfl rfl HN.out (Kd.F_below HR.out HB.out) (fun k_ hk => ⟨.inl hk, by obtain ⟨b, hb1, hb2⟩ := HT.out; rw [hb1]; intro he; injection he with he; have := hk.2; omega⟩) (fun k_ hk => .inr (Nat.le_trans (below_size HB.out) hk)) HB.out (below_size HB.out) (by rw [List.length_nil, Nat.zero_add]; exact hl) ?_; intro v2 w2 hn hb hg hat; have HN2 := Aside0.mk hn; have HB2 := Aside0.mk hb; clear hn hb hg hat))
    go_ret
    exact ⟨_, rfl, HN2.out, HB2.out⟩
theorem N_new_Field {W : World} {e base : Nat} {ok : Nat → Prop} {v : Value} {xs : List (S98)} (h : Kd.N k98 e W base ok v xs) : Kd.N k98 e W base (fun k_ => base ≤ k_) v xs := by
  have hb := Kd.N_base h
  obtain ⟨h0, rows, hl, hR, hf⟩ := h
  exact ⟨hb, rows, hl, hR, fun j x c hx hc => by have h1 := k98_open (Kd.FK_now (hf j x c hx hc)); subst h1; exact k98_mkF _ _ _⟩
theorem N_new_Gone {W : World} {e base : Nat} {ok : Nat → Prop} {v : Value} {xs : List (S75)} (h : Kd.N k75 e W base ok v xs) : Kd.N k75 e W base (fun k_ => base ≤ k_) v xs := by
  have hb := Kd.N_base h
  obtain ⟨h0, rows, hl, hR, hf⟩ := h
  exact ⟨hb, rows, hl, hR, fun j x c hx hc => by have h1 := k75_open (Kd.FK_now (hf j x c hx hc)); subst h1; exact k75_mkF _ _ _⟩
theorem N_new_u8 {W : World} {e base : Nat} {ok : Nat → Prop} {v : Value} {xs : List Int} (h : Kd.N (Kd.int .u8) e W base ok v xs) : Kd.N (Kd.int .u8) e W base (fun k_ => base ≤ k_) v xs := by
  have hb := Kd.N_base h
  obtain ⟨h0, rows, hl, hR, hf⟩ := h
  exact ⟨hb, rows, hl, hR, fun j x c hx hc W' _ => (show (Kd.int .u8).K W x c from Kd.FK_now (hf j x c hx hc))⟩
set_option maxHeartbeats 4000000 in
set_option maxRecDepth 100000 in
theorem mailbox_CloneMessage.calls (ok : Nat → Prop) (A0 : Option Addr) (c0 : Nat) (l0 : List (S98)) (A1 : Option Addr) (c1 : Nat) (l1 : List Int) (w : World) (hr0 : Kd.F k98 w ok A0 l0.length l0) (hc0 : l0.length ≤ c0) (hr1 : Kd.F (Kd.int .u8) w ok A1 l1.length l1) (hc1 : l1.length ≤ c1) (hl0 : l0.length * 32 ≤ 140737488355328) (hl1 : l1.length * 1 ≤ 140737488355328) :
    Calls Tryd.prog 45 #[.agg #[.slice A0 l0.length c0, .slice A1 l1.length c1]] w fun e w' => ∃ v0_ v1_, e = .returned (.agg #[v0_, v1_]) ∧ Kd.V k98 98 w' w.heap.size (fun k_ => w.heap.size ≤ k_) v0_ l0 ∧ Kd.V (Kd.int .u8) 5 w' w.heap.size (fun k_ => w.heap.size ≤ k_) v1_ l1 ∧ Below w.heap.size w w' := by
  have HR0 := Aside0.mk hr0
  have HR1 := Aside0.mk hr1
  clear hr0 hr1
  go_enter Tryd.func45, Tryd.ntmps45
  have hx : ((w.alloc (.cells #[.slice A0 l0.length c0, .slice A1 l1.length c1] 53)).alloc (.cells #[.slice none 0 0, .slice none 0 0] 53)).heap[w.heap.size]? = some (.cells #[.slice A0 l0.length c0, .slice A1 l1.length c1] 53 (0, 0)) := blk_later (blk_at _) _
  have hy : ((w.alloc (.cells #[.slice A0 l0.length c0, .slice A1 l1.length c1] 53)).alloc (.cells #[.slice none 0 0, .slice none 0 0] 53)).heap[w.heap.size + 1]? = some (.cells #[.slice none 0 0, .slice none 0 0] 53 (0, 0)) := blk_at1 _ _
  have HX := Aside0.mk (blk_drew hx)
  have HY := Aside0.mk (blk_drew hy)
  clear hx hy
  go_wp2
  go_region_with (first | (go_at_call 63; (with_reducible refine (clone_Field ok _ _ l0 _ ?s1 hc0 hl0).mono ?_); (case s1 => exact Kd.F_below HR0.out (below_drew1 (below_alloc (below_alloc (Below.refl _ _) _) _))); rintro e w2 ⟨v0, rfl, hn, hb⟩; obtain ⟨B0, b0, rfl⟩ := Kd.N_slice hn; have HN1 := Aside0.mk (N_new_Field hn); have HB1 := Aside0.mk hb; have HX1 := Aside0.mk (blk_call HX.out hb); have HY1 := Aside0.mk (blk_call HY.out hb); have kx1 := bc0 HX1.out; clear hn hb) | (go_at_call 64; (with_reducible refine (clone_bytes ok _ _ l1 _ ?s1 hc1 hl1).mono ?_); (case s1 => exact Kd.F_below HR1.out (below_step (below_drew1 (below_alloc (below_alloc (Below.refl _ _) _) _)) HB1.out)); rintro e w3 ⟨v1, rfl, hn, hb⟩; obtain ⟨B1, b1, rfl⟩ := Kd.N_slice hn; have HN2 := Aside0.mk (N_new_u8 hn); have HB2 := Aside0.mk hb; have HY2 := Aside0.mk (blk_call HY1.out hb); have ky2 := bc0 HY2.out; have kf2 := bf0 HY2.out; have hz := blk_lt HY2.out; clear hn hb))
  all_goals
    go_wp2
    have hs : ((w.alloc (.cells #[.slice A0 l0.length c0, .slice A1 l1.length c1] 53)).alloc (.cells #[.slice none 0 0, .slice none 0 0] 53)).drew.heap.size = w.heap.size + 1 + 1 := by simp
    have hs2 := below_size HB1.out
    rw [hs] at hs2
    refine bodyPost_ret (v := .agg #[.slice B0 l0.length b0, .slice B1 l1.length b1]) (by simp [results, Tryd.results45, go_sem, ky2, hz]) rfl ⟨_, _, rfl, ?_, ?_, ?_⟩
    · exact Kd.V_mono (Kd.V_far (p := ⟨w.heap.size + 1, 1, none⟩) (Kd.V_far (p := ⟨w.heap.size + 1, 0, none⟩) (Kd.V_below (Kd.N_V HN1.out) HB2.out) (fun k hk => by rw [hs] at hk; show k ≠ w.heap.size + 1; omega) _) (fun k hk => by rw [hs] at hk; show k ≠ w.heap.size + 1; omega) _) (fun k hk => by rw [hs] at hk; omega)
    · exact Kd.V_mono (Kd.V_far (p := ⟨w.heap.size + 1, 1, none⟩) (Kd.V_far (p := ⟨w.heap.size + 1, 0, none⟩) (Kd.N_V HN2.out) (fun k hk => by show k ≠ w.heap.size + 1; omega) _) (fun k hk => by show k ≠ w.heap.size + 1; omega) _) (fun k hk => by omega)
    · exact below_set (below_set (below_step (below_step (below_drew1 (below_alloc (below_alloc (Below.refl _ _) _) _)) HB1.out) HB2.out) (Nat.le_succ _)) (Nat.le_succ _)
/-- A row of messages of the call's own; what element j leads to lies in okj j. -/
def NJ (okj : Nat → Nat → Prop) (W : World) (base : Nat) (v : Value) (xs : List (S55)) : Prop :=
  ∃ rows : List (List Value), rows.length = xs.length ∧ (Kd.raw 6).R 55 W base (fun k => some k = v.ownBlock) v rows ∧ ∀ (j : Nat) (x : S55) (c : List Value), xs[j]? = some x → rows[j]? = some c → Kd.FK k55 W (fun k => okj j k ∧ some k ≠ v.ownBlock) x c
theorem NJ_of_N {ok : Nat → Prop} {okj : Nat → Nat → Prop} {W : World} {base : Nat} {v : Value} {xs : List (S55)} (h : Kd.N k55 55 W base ok v xs) (hk : ∀ j k, ok k → okj j k) : NJ okj W base v xs := by
  obtain ⟨h0, rows, hl, hR, hf⟩ := h
  exact ⟨rows, hl, hR, fun j x c hx hc => Kd.FK_mono (hf j x c hx hc) (fun k hk1 => ⟨hk j k hk1.1, hk1.2⟩)⟩
theorem N_of_NJ {ok : Nat → Prop} {okj : Nat → Nat → Prop} {W : World} {base : Nat} {v : Value} {xs : List (S55)} (h : NJ okj W base v xs) (hv : ∀ k, v.ownBlock = some k → ok k) (hk : ∀ j k, j < xs.length → okj j k → ok k) : Kd.N k55 55 W base ok v xs := by
  obtain ⟨rows, hl, hR, hf⟩ := h
  exact ⟨hv, rows, hl, hR, fun j x c hx hc => Kd.FK_mono (hf j x c hx hc) (fun k hk1 => ⟨hk j k (List.getElem?_eq_some_iff.1 hx).1 hk1.1, hk1.2⟩)⟩
theorem NJ_below {okj : Nat → Nat → Prop} {W w1 : World} {base : Nat} {v : Value} {xs : List (S55)} (h : NJ okj W base v xs) (hb : Below W.heap.size W w1) : NJ okj w1 base v xs := by
  obtain ⟨rows, hl, hR, hf⟩ := h
  exact ⟨rows, hl, Kd.R_below hR hb, fun j x c hx hc => Kd.FK_below (hf j x c hx hc) hb⟩
theorem NJ_far {okj : Nat → Nat → Prop} {W : World} {base : Nat} {v : Value} {xs : List (S55)} (h : NJ okj W base v xs) {p : Addr} (hv : some p.block ≠ v.ownBlock) (hk : ∀ j k, okj j k → k ≠ p.block) (u : Value) : NJ okj (W.setCell p u) base v xs := by
  obtain ⟨rows, hl, hR, hf⟩ := h
  exact ⟨rows, hl, Kd.R_far hR (fun k h1 h2 => hv (by rw [← h2]; exact h1)) u, fun j x c hx hc => Kd.FK_step (hf j x c hx hc) (fun k h1 _ => Below.heap_setCell W p u k (hk j k h1.1))⟩
theorem NJ_drew {okj : Nat → Nat → Prop} {W : World} {base : Nat} {v : Value} {xs : List (S55)} (h : NJ okj W base v xs) : NJ okj W.drew base v xs := NJ_below h (below_drew1 (Below.refl _ _))
theorem NJ_lower {okj : Nat → Nat → Prop} {W : World} {base base' : Nat} {v : Value} {xs : List (S55)} (h : NJ okj W base v xs) (hb : base' ≤ base) : NJ okj W base' v xs := by
  obtain ⟨rows, hl, hR, hf⟩ := h
  exact ⟨rows, hl, Kd.R_lower hR hb, hf⟩
theorem NJ_any {okj : Nat → Nat → Prop} {W : World} {base : Nat} {v : Value} {xs : List (S55)} (h : NJ okj W base v xs) : Kd.N k55 55 W base (fun _ => True) v xs := N_of_NJ h (fun _ _ => trivial) (fun _ _ _ _ => trivial)
/-- Element i: its cells, what they lead to, and what is so behind a store into its message. -/
theorem NJ_elem {okj : Nat → Nat → Prop} {W : World} {base : Nat} {g n cap : Nat} {xs : List (S55)} (h : NJ okj W base (.slice (some ⟨g, 0, none⟩) n cap) xs) {i : Nat} {x : S55} (hx : xs[i]? = some x) :
    ∃ c, c.length = 6 ∧ Kd.FK k55 W (fun k => okj i k ∧ k ≠ g) x c ∧ (∀ j u, c[j]? = some u → W.cell? ⟨g, i * 6 + j, none⟩ = some u) ∧ ∀ j, W.frozen? ⟨g, i * 6 + j, none⟩ = false := by
  obtain ⟨rows, hl, hR, hf⟩ := h
  have hn := (Kd.R_reads' hR).1
  have hi := (List.getElem?_eq_some_iff.1 hx).1
  have hil : i < rows.length := by omega
  obtain ⟨c, hcl, hM, hcc, hfr⟩ := Kd.R_elem hR [] (i : Int) (by omega) (by omega)
  simp only [Int.toNat_natCast] at hcc hfr hM
  have hc : c = rows[i] := by
    have h2 := hM.1
    rwa [List.getD_eq_getElem?_getD, List.getElem?_eq_getElem hil] at h2
  refine ⟨c, hcl, ?_, hcc, hfr⟩
  exact Kd.FK_mono (hf _ _ _ hx (by rw [hc]; exact List.getElem?_eq_getElem hil)) (fun k hk => ⟨hk.1, fun he => hk.2 (by rw [he]; simp [Value.ownBlock])⟩)
theorem NJ_seg {okj okj' : Nat → Nat → Prop} {okp : Nat → Prop} {W : World} {base : Nat} {g n cap : Nat} {xs : List (S55)} (h : NJ okj W base (.slice (some ⟨g, 0, none⟩) n cap) xs) {i : Nat} {x : S55} (hx : xs[i]? = some x) {c seg : List Value} {j : Nat} (hcl : c.length = 6) (hcc : ∀ j u, c[j]? = some u → W.cell? ⟨g, i * 6 + j, none⟩ = some u)
    (hj : j + seg.length ≤ 6) (hM : Kd.FK k55 W okp x (c.take j ++ seg ++ c.drop (j + seg.length))) (hokp : ∀ k, okp k → okj' i k ∧ k ≠ g) (hkeep : ∀ m k, m ≠ i → okj m k → okj' m k) :
    NJ okj' (W.setCells g (i * 6 + j) seg) base (.slice (some ⟨g, 0, none⟩) n cap) xs ∧ W.grownBy (W.setCells g (i * 6 + j) seg) (some g) := by
  obtain ⟨rows, hl, hR, hf⟩ := h
  have hn := (Kd.R_reads' hR).1
  have hi := (List.getElem?_eq_some_iff.1 hx).1
  obtain ⟨h2, h3⟩ := Kd.R_seg (Kd.raw_any hR) (i : Int) (by omega) (by omega) (c := c) (seg := seg) (j := j) (x' := c.take j ++ seg ++ c.drop (j + seg.length)) (okp := fun _ => False) hcl (fun j u hu => by rw [Int.toNat_natCast]; exact hcc j u hu) hj ⟨rfl, k55.K_len (Kd.FK_now hM), k55.K_one (Kd.FK_now hM)⟩ (fun _ hk => hk.elim)
  rw [Int.toNat_natCast] at h2 h3
  have hgo : some g = (Value.slice (some ⟨g, 0, none⟩) n cap).ownBlock := by simp [Value.ownBlock]
  refine ⟨⟨rows.set i (c.take j ++ seg ++ c.drop (j + seg.length)), by rw [List.length_set, hl], Kd.raw_tight h2, fun m y d hy hd => ?_⟩, h3⟩
  by_cases hm : m = i
  · subst hm
    rw [List.getElem?_set_self (by omega)] at hd
    rw [hx] at hy
    injection hy with hy
    injection hd with hd
    rw [← hy, ← hd]
    exact Kd.FK_mono (Kd.FK_step hM (fun k hk hlt => h3.block k hlt (fun he => (hokp k hk).2 (by injection he)))) (fun k hk => ⟨(hokp k hk).1, fun he => (hokp k hk).2 (by rw [← hgo] at he; injection he)⟩)
  · rw [List.getElem?_set_ne (Ne.symm hm)] at hd
    exact Kd.FK_mono (Kd.FK_step (hf m y d hy hd) (fun k hk hlt => h3.block k hlt (by rw [hgo]; exact hk.2))) (fun k hk => ⟨hkeep m k hm hk.1, hk.2⟩)
set_option maxHeartbeats 8000000 in
set_option maxRecDepth 100000 in
theorem mailbox_Clone.calls (ok : Nat → Prop) (a0 a1 a2 : Int) (A3 : Option Addr) (c3 : Nat) (l3 : List (S55)) (A4 : Option Addr) (c4 : Nat) (l4 : List (S75)) (w : World) (hr3 : Kd.F k55 w ok A3 l3.length l3) (hc3 : l3.length ≤ c3) (hr4 : Kd.F k75 w ok A4 l4.length l4) (hc4 : l4.length ≤ c4) (hl3 : l3.length * 80 ≤ 140737488355328) (hl4 : l4.length * 16 ≤ 140737488355328) (hm : ∀ e ∈ l3, e.f4.f0.length * 32 ≤ 140737488355328 ∧ e.f4.f1.length * 1 ≤ 140737488355328) :
    Calls Tryd.prog 24 #[.agg #[.int .i64 a0, .int .i64 a1, .int .i64 a2, .slice A3 l3.length c3, .slice A4 l4.length c4]] w fun e w' => ∃ B3 b3 B4 b4, e = .returned (.agg #[.int .i64 a0, .int .i64 a1, .int .i64 a2, .slice B3 l3.length b3, .slice B4 l4.length b4]) ∧ l3.length ≤ b3 ∧ Kd.N k55 55 w' (w.heap.size + 1 + 1) (fun k_ => w.heap.size + 1 < k_ ∧ some k_ ≠ (Value.slice B4 l4.length b4).ownBlock) (.slice B3 l3.length b3) l3 ∧ Kd.N k75 75 w' (w.heap.size + 1 + 1) (fun k_ => w.heap.size + 1 < k_ ∧ some k_ ≠ (Value.slice B3 l3.length b3).ownBlock) (.slice B4 l4.length b4) l4 ∧ Below w.heap.size w w' := by
  have HR3 := Aside0.mk (Kd.F_bound hr3)
  have HR4 := Aside0.mk (Kd.F_bound hr4)
  have HM := Aside0.mk hm
  have n3 := Kd.F_max hr3
  clear hr3 hr4 hm
  have hx : ((w.alloc (.cells #[.int .i64 a0, .int .i64 a1, .int .i64 a2, .slice A3 l3.length c3, .slice A4 l4.length c4] 25)).alloc (.cells #[.int .i64 0, .int .i64 0, .int .i64 0, .slice none 0 0, .slice none 0 0] 25)).heap[w.heap.size]? = some (.cells #[.int .i64 a0, .int .i64 a1, .int .i64 a2, .slice A3 l3.length c3, .slice A4 l4.length c4] 25 (0, 0)) := blk_later (blk_at _) _
  have hy : ((w.alloc (.cells #[.int .i64 a0, .int .i64 a1, .int .i64 a2, .slice A3 l3.length c3, .slice A4 l4.length c4] 25)).alloc (.cells #[.int .i64 0, .int .i64 0, .int .i64 0, .slice none 0 0, .slice none 0 0] 25)).heap[w.heap.size + 1]? = some (.cells #[.int .i64 0, .int .i64 0, .int .i64 0, .slice none 0 0, .slice none 0 0] 25 (0, 0)) := blk_at1 _ _
  have hs : ((w.alloc (.cells #[.int .i64 a0, .int .i64 a1, .int .i64 a2, .slice A3 l3.length c3, .slice A4 l4.length c4] 25)).alloc (.cells #[.int .i64 0, .int .i64 0, .int .i64 0, .slice none 0 0, .slice none 0 0] 25)).drew.heap.size = w.heap.size + 1 + 1 := by simp
  have HX := Aside0.mk (blk_drew hx)
  have HY := Aside0.mk (blk_drew hy)
  have HB0 := Aside0.mk (below_drew1 (below_alloc (below_alloc (Below.refl w.heap.size w) (.cells #[.int .i64 a0, .int .i64 a1, .int .i64 a2, .slice A3 l3.length c3, .slice A4 l4.length c4] 25)) (.cells #[.int .i64 0, .int .i64 0, .int .i64 0, .slice none 0 0, .slice none 0 0] 25)))
  have HS := Aside0.mk hs
  clear hx hy hs
  go_enter Tryd.func24, Tryd.ntmps24
  go_wp2
  go_region_with (first | (go_at_call 43; (with_reducible refine (clone_Stored (fun k_ => ok k_ ∧ k_ < w.heap.size) _ _ l3 _ ?s1 hc3 hl3).mono ?_); (case s1 => exact Kd.F_below HR3.out (below_drew1 (below_alloc (below_alloc (Below.refl _ _) _) _))); rintro e w2 ⟨v0, rfl, hn, hb⟩; obtain ⟨B3, b3, rfl⟩ := Kd.N_slice hn; have HN1 := Aside0.mk hn; have HB1 := Aside0.mk hb; have HX1 := Aside0.mk (blk_call HX.out hb); have HY1 := Aside0.mk (blk_call HY.out hb); have kx1 := bc0 HX1.out; clear hn hb) | (go_at_call 44; (with_reducible refine (clone_Gone (fun k_ => ok k_ ∧ k_ < w.heap.size) _ _ l4 _ ?s1 hc4 hl4).mono ?_); (case s1 => exact Kd.F_below HR4.out (below_step (below_drew1 (below_alloc (below_alloc (Below.refl _ _) _) _)) HB1.out)); rintro e w3 ⟨v1, rfl, hn, hb⟩; obtain ⟨B4, b4, rfl⟩ := Kd.N_slice hn; have HN2 := Aside0.mk (N_new_Gone hn); have HB2 := Aside0.mk hb; have HX2 := Aside0.mk (blk_call HX1.out hb); have HY2 := Aside0.mk (blk_call HY1.out hb); have kx2 := bc0 HX2.out; have kxf2 := bf0 HX2.out; have hz := blk_lt HX2.out; clear hn hb))
  all_goals
    have hv3 : ∀ k, (Value.slice B3 l3.length b3).ownBlock = some k → w.heap.size + 1 + 1 ≤ k ∧ k < w2.heap.size := fun k hk => ⟨by rw [← HS.out]; exact Kd.N_base HN1.out k hk, Kd.N_lt HN1.out k hk⟩
    have hs2 : w.heap.size + 1 + 1 ≤ w2.heap.size := by rw [← HS.out]; exact below_size HB1.out
    have HX4 := Aside0.mk (blk_put (blk_put HX2.out 3 (.slice B3 l3.length b3) rfl) 4 (.slice B4 l4.length b4) rfl)
    have HY4 := Aside0.mk (blk_far (p := ⟨w.heap.size, 4, none⟩) (blk_far (p := ⟨w.heap.size, 3, none⟩) HY2.out (by show w.heap.size + 1 ≠ w.heap.size; omega) (.slice B3 l3.length b3)) (by show w.heap.size + 1 ≠ w.heap.size; omega) (.slice B4 l4.length b4))
    have hown : some w.heap.size ≠ (Value.slice B3 l3.length b3).ownBlock := fun he => by have := (hv3 _ he.symm).1; omega
    have HJ4 := Aside0.mk (NJ_far (p := ⟨w.heap.size, 4, none⟩) (NJ_far (p := ⟨w.heap.size, 3, none⟩) (NJ_below (NJ_lower (NJ_of_N (okj := fun j_ k_ => if j_ < 0 then w.heap.size + 1 < k_ ∧ some k_ ≠ (Value.slice B4 l4.length b4).ownBlock else (ok k_ ∧ k_ < w.heap.size) ∨ w.heap.size + 1 < k_) HN1.out (fun j k hk => by rw [if_neg (Nat.not_lt_zero _)]; rcases hk with hk | hk; exact .inl hk.1; rw [HS.out] at hk; exact .inr (by omega))) (Nat.le_of_eq HS.out.symm)) HB2.out) hown (fun j k hk => by rw [if_neg (Nat.not_lt_zero _)] at hk; show k ≠ w.heap.size; omega) (.slice B3 l3.length b3)) hown (fun j k hk => by rw [if_neg (Nat.not_lt_zero _)] at hk; show k ≠ w.heap.size; omega) (.slice B4 l4.length b4))
    have HN4 := Aside0.mk (Kd.N_far (p := ⟨w.heap.size, 4, none⟩) (Kd.N_far (p := ⟨w.heap.size, 3, none⟩) (Kd.N_lower (Kd.N_mono (ok' := fun k_ => w.heap.size + 1 < k_ ∧ some k_ ≠ (Value.slice B3 l3.length b3).ownBlock) HN2.out (fun k hk => ⟨by omega, fun he => by have := (hv3 _ he.symm).2; omega⟩)) hs2) (fun k hk => by have := hk.1; show k ≠ w.heap.size; omega) (.slice B3 l3.length b3)) (fun k hk => by have := hk.1; show k ≠ w.heap.size; omega) (.slice B4 l4.length b4))
    have HB4 := Aside0.mk (below_set (j := 4) (v := .slice B4 l4.length b4) (below_set (j := 3) (v := .slice B3 l3.length b3) (below_step (below_step HB0.out HB1.out) HB2.out) (Nat.le_refl _)) (Nat.le_refl _))
    clear HX HY HX1 HY1 kx1 HX2 HY2 kx2 kxf2 hz hv3 hs2 hown HN1 HN2 HB0 HB1 HB2 HS
    generalize (w3.setCell ⟨w.heap.size, 3, none⟩ (.slice B3 l3.length b3)).setCell ⟨w.heap.size, 4, none⟩ (.slice B4 l4.length b4) = W4 at *
    have kx := bc0 HX4.out
    go_wp2
    clear kx
    go_loopg [15] l3.length (fun gg v15 W => ∃ i : Nat, i ≤ l3.length ∧ l3.length - i ≤ gg ∧ v15 = .int .i64 i ∧ Aside0 (Below w.heap.size w W) ∧ Aside0 (W.heap[w.heap.size]? = some (.cells #[.int .i64 a0, .int .i64 a1, .int .i64 a2, .slice B3 l3.length b3, .slice B4 l4.length b4] 25 (0, 0))) ∧ Aside0 (W.heap[w.heap.size + 1]? = some (.cells #[.int .i64 0, .int .i64 0, .int .i64 0, .slice none 0 0, .slice none 0 0] 25 (0, 0))) ∧ Aside0 (NJ (fun j_ k_ => if j_ < i then w.heap.size + 1 < k_ ∧ some k_ ≠ (Value.slice B4 l4.length b4).ownBlock else (ok k_ ∧ k_ < w.heap.size) ∨ w.heap.size + 1 < k_) W (w.heap.size + 1 + 1) (.slice B3 l3.length b3) l3) ∧ Aside0 (Kd.N k75 75 W (w.heap.size + 1 + 1) (fun k_ => w.heap.size + 1 < k_ ∧ some k_ ≠ (Value.slice B3 l3.length b3).ownBlock) (.slice B4 l4.length b4) l4))
    case atStart => exact ⟨0, Nat.zero_le _, Nat.le_refl _, rfl, HB4, HX4, HY4, HJ4, HN4⟩
    case round =>
      clear HB4 HX4 HY4 HJ4 HN4
      obtain ⟨i, hi, hg, rfl, HB, HX, HY, HJ, HN⟩ := hrel
      by_cases hlt : i < l3.length
      · obtain ⟨g, cap, hv, hg1, hg2, -⟩ := Kd.N_form (NJ_any HJ.out) (by omega)
        injection hv with hv1 _ hv2
        subst hv1 hv2
        have hxi := List.getElem?_eq_getElem hlt
        have hmem := List.getElem_mem hlt
        generalize l3[i] = x at hxi hmem
        have hml := HM.out x hmem
        obtain ⟨c, hcl, hFK, hcc, hfr⟩ := NJ_elem HJ.out hxi
        obtain ⟨D4, d4, D5, d5, rfl, e4, f4, e5, f5⟩ := k55_openF hFK
        have q4 := hcc 4 _ rfl
        have q5 := hcc 5 _ rfl
        have HF4 := Aside0.mk (Kd.F_mono (ok' := fun _ => True) f4 (fun _ _ => trivial))
        have HF5 := Aside0.mk (Kd.F_mono (ok' := fun _ => True) f5 (fun _ _ => trivial))
        have HI := Aside0.mk hxi
        have HML := Aside0.mk hml
        have HG := Aside0.mk (And.intro hg1 hg2)
        have hgX : g ≠ w.heap.size := by omega
        have kx := bc0 HX.out
        clear hcc hfr hFK f4 f5 hcl hxi hmem hml hg1 hg2
        go_wp2
        go_region_with (first | (go_at_call 45; (with_reducible refine (mailbox_CloneMessage.calls (fun _ => True) D4 _ x.f4.f0 D5 _ x.f4.f1 _ ?s1 e4 ?s2 e5 HML.out.1 HML.out.2).mono ?_); (case s1 => exact Kd.F_below HF4.out (below_drew1 (Below.refl _ _))); (case s2 => exact Kd.F_below HF5.out (below_drew1 (Below.refl _ _))); rintro e w5 ⟨v0, v1, rfl, hv0, hv1, hb⟩; obtain ⟨C0, d0, rfl⟩ := Kd.V_slice hv0; obtain ⟨C1, d1, rfl⟩ := Kd.V_slice hv1; have HV0 := Aside0.mk hv0; have HV1 := Aside0.mk hv1; have HB5 := Aside0.mk hb; have HX5 := Aside0.mk (blk_call (blk_drew HX.out) hb); have kx5 := bc0 HX5.out; have HJ5 := Aside0.mk (NJ_below (NJ_drew HJ.out) hb); obtain ⟨c, hcl, hFK, hcc, hfr⟩ := NJ_elem HJ5.out HI.out; obtain ⟨D6, d6, D7, d7, rfl, -, -, -, -⟩ := k55_openF hFK; have p4 := hcc 4 _ rfl; have p5 := hcc 5 _ rfl; have r4 := hfr 4; have r5 := hfr 5; have HCC := Aside0.mk hcc; clear hcc hfr hFK hcl hb hv0 hv1))
        all_goals
          go_wp2
          go_roundg (l3.length - (i + 1))
          case measure => omega
          case rel =>
            obtain ⟨hg1, hg2⟩ := HG.out
            have hlY := blk_lt HY.out
            have hN4 := Kd.N_lt HN.out
            have hM : Kd.FK k55 w5 (fun k_ => wr.drew.heap.size ≤ k_) x [.int .i64 x.f0, .int .i64 x.f1, .int .i64 x.f2, .int .i64 x.f3, .slice C0 x.f4.f0.length d0, .slice C1 x.f4.f1.length d1] := k55_mkF w5 _ x (Kd.V_at HV0.out).2.1 (Kd.V_F HV0.out) (Kd.V_at HV1.out).2.1 (Kd.V_F HV1.out)
            obtain ⟨hJ, hgr⟩ := NJ_seg (okj' := fun j_ k_ => if j_ < i + 1 then w.heap.size + 1 < k_ ∧ some k_ ≠ (Value.slice B4 l4.length b4).ownBlock else (ok k_ ∧ k_ < w.heap.size) ∨ w.heap.size + 1 < k_) (seg := [.slice C0 x.f4.f0.length d0, .slice C1 x.f4.f1.length d1]) (j := 4) HJ5.out HI.out rfl HCC.out (Nat.le_refl 6) hM (fun k hk => by
              replace hk : wr.heap.size ≤ k := hk
              exact ⟨by rw [if_pos (Nat.lt_succ_self i)]; exact ⟨by omega, fun he => by have := hN4 k he.symm; omega⟩, by omega⟩) (fun m k hm hk => by
              by_cases hmi : m < i
              · rw [if_pos hmi] at hk
                rw [if_pos (by omega)]
                exact hk
              · rw [if_neg hmi] at hk
                rw [if_neg (by omega)]
                exact hk)
            have hs5 := below_size HB5.out
            refine ⟨i + 1, by omega, by omega, by go_num, ⟨below_set (below_set (below_step (below_drew1 HB.out) HB5.out) (by omega)) (by omega)⟩, ⟨blk_grown HX5.out hgr (by simp; omega)⟩, ⟨blk_grown (blk_call (blk_drew HY.out) HB5.out) hgr (by simp; omega)⟩, ⟨hJ⟩, ⟨Kd.N_grown (Kd.N_below (Kd.N_drew HN.out) HB5.out) hgr (fun k hk he => hk.2 (by rw [he]; simp [Value.ownBlock]))⟩⟩
      · have kx := bc0 HX.out
        have ky := bc0 HY.out
        have kf := bf0 HY.out
        have hz := blk_lt HY.out
        have hi' : i = l3.length := by omega
        have HJ' := Aside0.mk (N_of_NJ (ok := fun k_ => w.heap.size + 1 < k_ ∧ some k_ ≠ (Value.slice B4 l4.length b4).ownBlock) HJ.out (fun k hk => ⟨by have := Kd.N_base (NJ_any HJ.out) k hk; omega, fun he => (HN.out.1 k he.symm).2 hk.symm⟩) (fun j k hj hk => by rw [if_pos (by omega)] at hk; exact hk))
        go_wp2
        refine bodyPost_ret (v := .agg #[.int .i64 a0, .int .i64 a1, .int .i64 a2, .slice B3 l3.length b3, .slice B4 l4.length b4]) (by simp [results, Tryd.results24, go_sem, ky, hz]) rfl ⟨B3, b3, B4, b4, rfl, ?_, ?_, ?_, ?_⟩
        · exact (Kd.N_reads' HJ'.out).2.1
        · iterate 5 (refine Kd.N_far ?_ (fun k hk => by have := hk.1; show k ≠ w.heap.size + 1; omega) _)
          exact HJ'.out
        · iterate 5 (refine Kd.N_far ?_ (fun k hk => by have := hk.1; show k ≠ w.heap.size + 1; omega) _)
          exact HN.out
        · exact below_set (below_set (below_set (below_set (below_set HB.out (Nat.le_succ _)) (Nat.le_succ _)) (Nat.le_succ _)) (Nat.le_succ _)) (Nat.le_succ _)


end Go.Proofs.YtbnmddippoiabaaDoor.P
