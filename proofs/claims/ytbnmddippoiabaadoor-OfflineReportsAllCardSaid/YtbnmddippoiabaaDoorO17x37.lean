/- Functions of this seat as Lean functions, and that the Go code comes to their answers: written by a program of this session's. -/
import Derived.Test.YtbnmddippoiabaaDoorO17x10
import Derived.Test.YtbnmddippoiabaaDoorO17x36
namespace Go.Proofs.YtbnmddippoiabaaDoor.P
open Go.RowKit Go.Proofs.YtbnmddippoiabaaDoorW.PrintWords Go.Proofs.YtbnmddippoiabaaDoorW.PrintLast Go.Proofs.YtbnmddippoiabaaDoorW.PrintMore
attribute [local go_sem] max2_int min2_int max_two min_two max_three min_three max_four min_four   -- for this text's walks alone
set_option linter.unusedVariables false
set_option linter.unusedSimpArgs false

/-! ### views_With: function 41 -/
set_option maxHeartbeats 1000000 in
set_option maxRecDepth 100000 in
theorem clone_Seen (ok : Nat → Prop) (A : Option Addr) (c : Nat) (l : List (S83)) (w : World) (hr : Kd.F k83 w ok A l.length l) (hc : l.length ≤ c) (hl : l.length * 16 ≤ 140737488355328) :
    Calls Tryd.prog 56 #[.slice A l.length c] w fun e w' => ∃ v_, e = .returned v_ ∧ Kd.N k83 83 w' w.heap.size (fun k_ => (ok k_ ∧ k_ < w.heap.size) ∨ w.heap.size ≤ k_) v_ l ∧ Below w.heap.size w w' := by
  have hu := Tryd.underlying45
  have info : (Tryd.prog.info? 83).map (fun i => (i.zero, i.size, i.bytes)) = some (some (.agg #[.int .i64 0, .int .i64 0]), 2, 16) := by kernel_rfl
  cases A with
  | none =>
    have h0 : l = [] := by
      have h1 := (Kd.F_now hr).2.2
      by_cases h2 : 0 < l.length
      · obtain ⟨ad, h3, -⟩ := h1 h2
        cases h3
      · exact List.eq_nil_of_length_eq_zero (by omega)
    subst h0
    clear hr info
    have hq := fun (wx : World) (n' c' : Nat) => Lib.run_eql_slice_nil (P := Tryd.prog) wx 45 83 none n' c' 0 0 hu
    go_enter Tryd.func56, Tryd.ntmps56
    go_wp2
    go_ret
    exact ⟨_, rfl, Kd.N_nil _ _ _ _ _, Below.refl _ _⟩
  | some ad =>
    have HR := Aside0.mk (Kd.F_bound hr)
    clear hr
    have hq := fun (wx : World) (n' c' : Nat) => Lib.run_eql_slice_nil (P := Tryd.prog) wx 45 83 (some ad) n' c' 0 0 hu
    go_enter Tryd.func56, Tryd.ntmps56
    go_wp2_with (first | ((with_reducible refine gate_dst (N := 5) rfl ?_); refine Kd.N_lit k83 (w0 := w) w.heap.size 83 ?hg (N' := 5) ?hd (xs := ([] : List (S83))) (inner := []) (ok := fun k_ => (ok k_ ∧ k_ < w.heap.size) ∨ w.heap.size ≤ k_) (okp := fun _ => False) ?hr ?hp (fun _ hk => hk.elim) (.inr (Nat.le_refl _)) (Below.refl _ _) (Nat.le_refl _) (by simp) ?_; (case hd => rfl); (case hg => rfl); (case hr => first | (go_simp; done) | (go_simp; rfl)); (case hp => exact Reps.none _ _); intro v1 w1 hn hb hg hat; have HN := Aside0.mk hn; have HB := Aside0.mk hb; have HT := Aside0.mk hat; clear hn hb hg hat) | ((with_reducible refine gate_builtin (b := .append) (xs := #[.tmp 5, .tmp 6]) rfl ?_); at_builtin; refine Kd.N_append_rows k83 (w0 := w) w.heap.size rfl (.tmp 5) (.tmp 6) 45 83 (.agg #[.int .i64 0, .int .i64 0]) 16 rfl Tryd.underlying45 info rfl (by decide) (by omega) v1 ([] : List (S83)) l _ _ _ (fun k_ => (ok k_ ∧ k_ < w.heap.size) ∨ w.heap.size ≤ k_) (fun k_ => ok k_ ∧ k_ < w.heap.size) rfl rfl HN.out (Kd.F_below HR.out HB.out) (fun k_ hk => ⟨.inl hk, by obtain ⟨b, hb1, hb2⟩ := HT.out; rw [hb1]; intro he; injection he with he; have := hk.2; omega⟩) (fun k_ hk => .inr (Nat.le_trans (below_size HB.out) hk)) HB.out (below_size HB.out) (by rw [List.length_nil, Nat.zero_add]; exact hl) ?_; intro v2 w2 hn hb hg hat; have HN2 := Aside0.mk hn; have HB2 := Aside0.mk hb; clear hn hb hg hat))
    go_ret
    exact ⟨_, rfl, HN2.out, HB2.out⟩
/-- What cmp.Compare answers at numbers. -/
def cmpI (a b : Int) : Int := if a < b then -1 else if b < a then 1 else 0
theorem compare_is (a0 a1 b : Int) : views_compare.f a0 a1 b = some (cmpI a0 b) := by
  unfold views_compare.f cmp_Compare_int.f cmp_isNaN_int.f cmpI
  simp only [Option.bind_some, bne_self_eq_false, Bool.false_eq_true, if_false]
  split
  · rfl
  · by_cases h : b < a0
    · rw [if_pos h, if_pos h]; rfl
    · rw [if_neg h, if_neg h]; rfl
theorem compare_any (x : S83) (b : Int) (w : World) : Calls Tryd.prog 58 #[.agg #[.int .i64 x.f0, .int .i64 x.f1], .int .i64 b] w fun e w' => e = .returned (.int .i64 (cmpI x.f0 b)) ∧ Below w.heap.size w w' := views_compare.calls _ _ _ _ w (compare_is _ _ _)
def seenAt (l : List (S83)) (i : Nat) : S83 := rd_T83 l (i : Int)
/-- The halving of slices.BinarySearchFunc. -/
def bsLoop (l : List (S83)) (t : Int) : Nat → Nat → Nat → Nat
  | 0, i, _ => i
  | n + 1, i, j => if i < j then (if (seenAt l ((i + j) / 2)).f0 < t then bsLoop l t n ((i + j) / 2 + 1) j else bsLoop l t n i ((i + j) / 2)) else i
def bsAt (l : List (S83)) (t : Int) : Nat := bsLoop l t l.length 0 l.length
theorem cmpI_lt (a b : Int) : decide (cmpI a b < 0) = decide (a < b) := by unfold cmpI; split <;> rename_i h <;> simp [h]; split <;> simp
theorem cmpI_eq (a b : Int) : (cmpI a b == 0) = (a == b) := by
  unfold cmpI
  by_cases h1 : a < b
  · rw [if_pos h1]; simp; omega
  · rw [if_neg h1]
    by_cases h2 : b < a
    · rw [if_pos h2]; simp; omega
    · rw [if_neg h2]; simp; omega
set_option maxHeartbeats 2000000 in
set_option maxRecDepth 100000 in
theorem bsearch_any (A : Option Addr) (c : Nat) (l : List (S83)) (t : Int) (w : World) (hr : Kd.C k83 w A l.length l) (hn : l.length ≤ 1000000000000) :
    Calls Tryd.prog 57 #[.slice A l.length c, .int .i64 t, .func (.func 58) #[] #[]] w fun e w' => e = .returned (.tuple #[.int .i64 (bsAt l t : Nat), .bool (decide (bsAt l t < l.length) && ((seenAt l (bsAt l t)).f0 == t))]) ∧ Below w.heap.size w w' := by
  have n3 := hr.2.1
  have HR := Aside0.mk hr
  clear hr
  have eg := enters_of Tryd.func58 (by kernel_rfl) rfl
  unfold Enters at eg
  go_enter Tryd.func57, Tryd.ntmps57
  go_wp2
  go_loopg [9, 10] (l.length + 1) (fun gg v9 v10 W => ∃ i j g : Nat, i ≤ j ∧ j ≤ l.length ∧ j - i ≤ g ∧ g < gg ∧ v9 = .int .i64 i ∧ v10 = .int .i64 j ∧ Aside0 (bsLoop l t g i j = bsAt l t) ∧ Aside0 (Below w.heap.size w W))
  case atStart => exact ⟨0, l.length, l.length, Nat.zero_le _, Nat.le_refl _, by omega, by omega, rfl, rfl, ⟨rfl⟩, ⟨Below.refl _ _⟩⟩
  case round =>
    obtain ⟨i, j, g, hij, hj, hg, hgg, rfl, rfl, HA, HB⟩ := hrel
    by_cases hlt : i < j
    · have d0 : decide ((i : Int) < (j : Int)) = true := decide_eq_true (by omega)
      obtain ⟨g', rfl⟩ : ∃ g', g = g' + 1 := ⟨g - 1, by omega⟩
      have HA1 := HA.out
      clear HA
      rw [bsLoop, if_pos hlt] at HA1
      have HA := Aside0.mk HA1
      clear HA1
      have M0 := Aside0.mk (show 0 ≤ ((i : Int) + (j : Int)) / 2 by omega)
      have M1 := Aside0.mk (show ((i : Int) + (j : Int)) / 2 < (l.length : Int) by omega)
      have htn : (((i : Int) + (j : Int)) / 2).toNat = (i + j) / 2 := by omega
      have hmj : (i + j) / 2 < j := by omega
      have him : i ≤ (i + j) / 2 := by omega
      have b0 : decide (0 ≤ ((i : Int) + (j : Int)) / 2) = true := decide_eq_true M0.out
      have b1 : decide (((i : Int) + (j : Int)) / 2 < (l.length : Int)) = true := decide_eq_true M1.out
      obtain ⟨ad, hA, q0, q1⟩ := at_T83 (Kd.C_below HR.out HB.out) (((i : Int) + (j : Int)) / 2) M0.out M1.out
      subst hA
      rw [htn] at q0 q1
      have hx : seenAt l ((i + j) / 2) = rd_T83 l (((i : Int) + (j : Int)) / 2) := by unfold seenAt; rw [show (((i + j) / 2 : Nat) : Int) = ((i : Int) + (j : Int)) / 2 by omega]
      have HA1 := HA.out
      clear HA
      rw [hx] at HA1
      have hp := compare_any (rd_T83 l (((i : Int) + (j : Int)) / 2)) t wr
      clear hx htn M0 M1
      generalize rd_T83 l (((i : Int) + (j : Int)) / 2) = x at *
      by_cases hc : x.f0 < t
      · rw [if_pos hc] at HA1
        have HA2 := Aside0.mk HA1
        have hd : decide (cmpI x.f0 t < 0) = true := (cmpI_lt _ _).trans (decide_eq_true hc)
        clear HA1 hc
        go_wp2_with (first | (go_at_call 58; refine hp.mono ?_; rintro e w2 ⟨rfl, hb2⟩))
        go_roundg (g' + 1)
        case measure => omega
        case rel => exact ⟨(i + j) / 2 + 1, j, g', by omega, hj, by omega, by omega, by go_num, rfl, HA2, ⟨below_step HB.out hb2⟩⟩
      · rw [if_neg hc] at HA1
        have HA2 := Aside0.mk HA1
        have hd : decide (cmpI x.f0 t < 0) = false := (cmpI_lt _ _).trans (decide_eq_false hc)
        clear HA1 hc
        go_wp2_with (first | (go_at_call 58; refine hp.mono ?_; rintro e w2 ⟨rfl, hb2⟩))
        go_roundg (g' + 1)
        case measure => omega
        case rel => exact ⟨i, (i + j) / 2, g', him, by omega, by omega, by omega, rfl, by go_num, HA2, ⟨below_step HB.out hb2⟩⟩
    · have hij' : i = j := by omega
      subst hij'
      have HA1 := HA.out
      clear HA
      have HA2 : i = bsAt l t := by
        cases g with
        | zero => exact HA1
        | succ g => rw [bsLoop, if_neg hlt] at HA1; exact HA1
      have HP := Aside0.mk HA2
      clear HA1 HA2
      have d0 : decide ((i : Int) < (i : Int)) = false := decide_eq_false (by omega)
      by_cases hlt2 : i < l.length
      · have d1 : decide ((i : Int) < (l.length : Int)) = true := decide_eq_true (by omega)
        have d2 : decide (i < l.length) = true := decide_eq_true hlt2
        obtain ⟨ad, hA, q0, q1⟩ := at_T83 (Kd.C_below HR.out HB.out) (i : Int) (by omega) (by omega)
        subst hA
        rw [Int.toNat_natCast] at q0 q1
        have hp := compare_any (seenAt l i) t wr
        have hx : rd_T83 l (i : Int) = seenAt l i := rfl
        rw [hx] at q0 q1
        clear hx
        have he : (cmpI (seenAt l i).f0 t == 0) = ((seenAt l i).f0 == t) := cmpI_eq _ _
        have b0 : decide (0 ≤ (i : Int)) = true := decide_eq_true (by omega)
        go_wp2_with (first | (go_at_call 58; refine hp.mono ?_; rintro e w2 ⟨rfl, hb2⟩))
        exact bodyPost_ret (v := .tuple #[.int .i64 (i : Int), .bool ((seenAt l i).f0 == t)]) (by simp [results, Tryd.results57, go_sem]) rfl ⟨by rw [← HP.out, d2, Bool.true_and], below_step HB.out hb2⟩
      · have d1 : decide ((i : Int) < (l.length : Int)) = false := decide_eq_false (by omega)
        have d2 : decide (i < l.length) = false := decide_eq_false hlt2
        go_wp2
        exact bodyPost_ret (v := .tuple #[.int .i64 (i : Int), .bool false]) (by simp [results, Tryd.results57, go_sem]) rfl ⟨by rw [← HP.out, d2, Bool.false_and], HB.out⟩
def idxInt : List Int → Int → Int → Int
  | [], _, _ => -1
  | x :: r, u, i => if x = u then i else idxInt r u (i + 1)
theorem idxInt_miss : ∀ (l : List Int) (u i : Int), (∀ x ∈ l, x ≠ u) → idxInt l u i = -1
  | [], _, _, _ => rfl
  | x :: r, u, i, h => by
    unfold idxInt
    rw [if_neg (h x List.mem_cons_self)]
    exact idxInt_miss r u (i + 1) (fun y hy => h y (List.mem_cons_of_mem _ hy))
theorem idxInt_hit : ∀ (l : List Int) (u i : Int) (n : Nat), l[n]? = some u → (∀ (j : Nat) y, j < n → l[j]? = some y → y ≠ u) → idxInt l u i = i + n
  | [], _, _, n, h, _ => by simp at h
  | y :: r, u, i, 0, h, _ => by
    simp at h
    subst h
    unfold idxInt
    rw [if_pos rfl]
    simp
  | y :: r, u, i, n + 1, h, hm => by
    unfold idxInt
    rw [if_neg (hm 0 y (by omega) rfl), idxInt_hit r u (i + 1) n (by simpa using h) (fun j z hj hz => hm (j + 1) z (by omega) (by simpa using hz))]
    omega
set_option maxHeartbeats 2000000 in
theorem index_any (A : Option Addr) (c : Nat) (l : List Int) (u : Int) (w : World) (hr : Kd.C (Kd.int .i64) w A l.length l) :
    Calls Tryd.prog 77 #[.slice A l.length c, .int .i64 u] w fun e w' => e = .returned (.int .i64 (idxInt l u 0)) ∧ Below w.heap.size w w' := by
  have n3 := hr.2.1
  have HR := Aside0.mk hr
  clear hr
  go_enter Tryd.func77, Tryd.ntmps77
  go_wp2
  go_loopg [8] (l.length) (fun gg v8 W => ∃ i : Nat, i ≤ l.length ∧ l.length - i ≤ gg ∧ v8 = .int .i64 i ∧ Aside0 (∀ (j : Nat) y, j < i → l[j]? = some y → y ≠ u) ∧ Aside0 (Below w.heap.size w W))
  case atStart => exact ⟨0, Nat.zero_le _, Nat.le_refl _, rfl, ⟨fun j y hj => absurd hj (Nat.not_lt_zero _)⟩, ⟨Below.refl _ _⟩⟩
  case round =>
    obtain ⟨i, hi, hg, rfl, HA, HB⟩ := hrel
    by_cases hlt : i < l.length
    · obtain ⟨ad, e', q0⟩ := Kd.at_int (Kd.C_below HR.out HB.out) (i : Int) (by omega) (by omega)
      cases e'
      rw [Int.toNat_natCast] at q0
      have hget : l[i]? = some (rd l (i : Int)) := by rw [rd, Int.toNat_natCast, List.getD_eq_getElem?_getD, List.getElem?_eq_getElem hlt]; rfl
      generalize rd l (i : Int) = x at *
      have HG := Aside0.mk hget
      clear hget
      by_cases he : x = u
      · subst he
        go_wp2
        go_ret
        exact ⟨by rw [idxInt_hit l x 0 i HG.out HA.out]; simp, HB.out⟩
      · have hb : (u == x) = false := beq_eq_false_iff_ne.2 (Ne.symm he)
        have HE := Aside0.mk he
        clear he
        go_wp2
        go_roundg (l.length - (i + 1))
        case measure => omega
        case rel =>
          refine ⟨i + 1, by omega, by omega, by go_num, ⟨fun j y hj hy => ?_⟩, HB⟩
          by_cases e : j = i
          · subst e
            rw [HG.out] at hy
            injection hy with hy
            subst hy
            exact HE.out
          · exact HA.out j y (by omega) hy
    · go_wp2
      go_ret
      exact ⟨by rw [idxInt_miss l u 0 (fun x hx => by obtain ⟨j, hj⟩ := List.mem_iff_getElem?.1 hx; have h1 := (List.getElem?_eq_some_iff.1 hj).1; exact HA.out j x (by omega) hj)]; rfl, HB.out⟩
theorem idxInt_in : ∀ (l : List Int) (u i : Int), 0 ≤ i → decide (0 ≤ idxInt l u i) = decide (u ∈ l)
  | [], u, i, _ => rfl
  | x :: r, u, i, h => by
    unfold idxInt
    by_cases e : x = u
    · rw [if_pos e, e]; simp [h]
    · rw [if_neg e, idxInt_in r u (i + 1) (by omega)]
      simp [Ne.symm e]
theorem contains_any (A : Option Addr) (c : Nat) (l : List Int) (u : Int) (w : World) (hr : Kd.C (Kd.int .i64) w A l.length l) :
    Calls Tryd.prog 62 #[.slice A l.length c, .int .i64 u] w fun e w' => e = .returned (.bool (decide (u ∈ l))) ∧ Below w.heap.size w w' := by
  have hi := idxInt_in l u 0 (Int.le_refl _)
  have HR := Aside0.mk hr
  clear hr
  go_enter Tryd.func62, Tryd.ntmps62
  go_wp2_with (first | (go_at_call 77; refine (index_any A c l u _ HR.out).mono ?_; rintro e w2 ⟨rfl, hb2⟩))
  go_ret
  exact ⟨rfl, hb2⟩
/-- The function literal in With: is the number of a message among those that are gone? -/
theorem with1_any (x : S83) (vA : Option Addr) (va : Nat) (vs : List Int) (g : Nat) (W : World) (hv : Kd.C (Kd.int .i64) W vA vs.length vs) (hu : W.cell? ⟨g, 0, none⟩ = some (.slice vA vs.length va)) :
    Calls Tryd.prog 61 (#[.agg #[.int .i64 x.f0, .int .i64 x.f1]] ++ #[.pointer (some ⟨g, 0, none⟩)]) W fun e w' => e = .returned (.bool (decide (x.f0 ∈ vs))) ∧ Below W.heap.size W w' := by
  have hc := cell1 hu
  have HV := Aside0.mk hv
  clear hv
  have HB := Aside0.mk (below_alloc (Below.refl W.heap.size W) (.cells #[.int .i64 x.f0, .int .i64 x.f1] 83))
  go_enter Tryd.func61, Tryd.ntmps61
  go_wp2_with (first | (go_at_call 62; refine (contains_any vA va vs x.f0 _ (Kd.C_below HV.out HB.out)).mono ?_; rintro e w2 ⟨rfl, hb2⟩))
  go_ret
  exact ⟨rfl, below_step HB.out hb2⟩
def goneIdx (vs : List Int) : List (S83) → Int → Int
  | [], _ => -1
  | x :: r, i => if x.f0 ∈ vs then i else goneIdx vs r (i + 1)
theorem goneIdx_miss (vs : List Int) : ∀ (l : List (S83)) (i : Int), (∀ x ∈ l, ¬ x.f0 ∈ vs) → goneIdx vs l i = -1
  | [], _, _ => rfl
  | x :: r, i, h => by
    unfold goneIdx
    rw [if_neg (h x List.mem_cons_self)]
    exact goneIdx_miss vs r (i + 1) (fun y hy => h y (List.mem_cons_of_mem _ hy))
theorem goneIdx_hit (vs : List Int) : ∀ (l : List (S83)) (i : Int) (n : Nat) (x : S83), l[n]? = some x → x.f0 ∈ vs → (∀ (j : Nat) y, j < n → l[j]? = some y → ¬ y.f0 ∈ vs) → goneIdx vs l i = i + n
  | [], _, n, _, h, _, _ => by simp at h
  | y :: r, i, 0, x, h, hx, _ => by
    simp at h
    subst h
    unfold goneIdx
    rw [if_pos hx]
    simp
  | y :: r, i, n + 1, x, h, hx, hm => by
    unfold goneIdx
    rw [if_neg (hm 0 y (by omega) rfl), goneIdx_hit vs r (i + 1) n x (by simpa using h) hx (fun j z hj hz => hm (j + 1) z (by omega) (by simpa using hz))]
    omega
set_option maxHeartbeats 2000000 in
/-- slices.IndexFunc at what is seen, with the function literal of With. -/
theorem idxSeen_any (A : Option Addr) (c : Nat) (l : List (S83)) (vA : Option Addr) (va : Nat) (vs : List Int) (g : Nat) (w : World) (hr : Kd.C k83 w A l.length l) (hv : Kd.C (Kd.int .i64) w vA vs.length vs) (hu : w.cell? ⟨g, 0, none⟩ = some (.slice vA vs.length va)) :
    Calls Tryd.prog 76 #[.slice A l.length c, .func (.func 61) #[] #[.pointer (some ⟨g, 0, none⟩)]] w fun e w' => e = .returned (.int .i64 (goneIdx vs l 0)) ∧ Below w.heap.size w w' := by
  have n3 := hr.2.1
  have HR := Aside0.mk hr
  have HV := Aside0.mk hv
  have HU := Aside0.mk hu
  clear hr hu hv
  have eg := enters_of Tryd.func61 (by kernel_rfl) rfl
  unfold Enters at eg
  go_enter Tryd.func76, Tryd.ntmps76
  go_wp2
  go_loopg [8] (l.length) (fun gg v8 W => ∃ i : Nat, i ≤ l.length ∧ l.length - i ≤ gg ∧ v8 = .int .i64 i ∧ Aside0 (∀ (j : Nat) y, j < i → l[j]? = some y → ¬ y.f0 ∈ vs) ∧ Aside0 (Below w.heap.size w W))
  case atStart => exact ⟨0, Nat.zero_le _, Nat.le_refl _, rfl, ⟨fun j y hj => absurd hj (Nat.not_lt_zero _)⟩, ⟨Below.refl _ _⟩⟩
  case round =>
    obtain ⟨i, hi, hg, rfl, HA, HB⟩ := hrel
    by_cases hlt : i < l.length
    · obtain ⟨ad, e', q0, q1⟩ := at_T83 (Kd.C_below HR.out HB.out) (i : Int) (by omega) (by omega)
      subst e'
      simp only [Int.toNat_natCast] at q0 q1
      have hget : l[i]? = some (rd_T83 l i) := by
        rw [rd_T83, Int.toNat_natCast, List.getD_eq_getElem?_getD, List.getElem?_eq_getElem hlt]; rfl
      have hp := with1_any (rd_T83 l i) vA va vs g wr (Kd.C_below HV.out HB.out) (cell_later HU.out HB.out)
      generalize hx : rd_T83 l i = x at *
      have HX := Aside0.mk hx
      have HG := Aside0.mk hget
      clear hx hget
      by_cases he : x.f0 ∈ vs
      · have hb : decide (x.f0 ∈ vs) = true := decide_eq_true he
        have HE := Aside0.mk he
        clear he
        rw [hb] at hp
        go_wp2_with (first | (go_at_call 61; refine hp.mono ?_; rintro e w2 ⟨rfl, hb2⟩))
        go_ret
        exact ⟨by rw [goneIdx_hit vs l 0 i x HG.out HE.out HA.out]; simp, below_step HB.out hb2⟩
      · have hb : decide (x.f0 ∈ vs) = false := decide_eq_false he
        have HE := Aside0.mk he
        clear he
        rw [hb] at hp
        go_wp2_with (first | (go_at_call 61; refine hp.mono ?_; rintro e w2 ⟨rfl, hb2⟩))
        go_roundg (l.length - (i + 1))
        case measure => omega
        case rel =>
          refine ⟨i + 1, by omega, by omega, by go_num, ⟨fun j y hj hy => ?_⟩, ⟨below_step HB.out hb2⟩⟩
          by_cases e : j = i
          · subst e
            rw [HG.out] at hy
            injection hy with hy
            subst hy
            exact HE.out
          · exact HA.out j y (by omega) hy
    · go_wp2
      go_ret
      exact ⟨by rw [goneIdx_miss vs l 0 (fun x hx => by obtain ⟨j, hj⟩ := List.mem_iff_getElem?.1 hx; have h1 := (List.getElem?_eq_some_iff.1 hj).1; exact HA.out j x (by omega) hj)]; rfl, HB.out⟩
/-- A cell behind a row's length is written: the row reads as it did. -/
theorem N_past2 {α : Type} {d : Kd α} {e : Nat} {W : World} {base g n cap o : Nat} {ok : Nat → Prop} {xs : List α} (h : Kd.N d e W base ok (.slice (some ⟨g, 0, none⟩) n cap) xs) (ho : n * d.sz ≤ o) (u : Value) : Kd.N d e (W.setCell ⟨g, o, none⟩ u) base ok (.slice (some ⟨g, 0, none⟩) n cap) xs := by
  obtain ⟨h0, rows, hl, ⟨h1, inner, ⟨hi, hw⟩, hr⟩, hf⟩ := h
  have hgo : some g = (Value.slice (some ⟨g, 0, none⟩) n cap).ownBlock := by simp [Value.ownBlock]
  have hnl : n = rows.length := by
    rcases hw with ⟨he, -⟩ | ⟨g', cap', cur, he, -⟩
    · cases he
    · injection he
  refine ⟨h0, rows, hl, ⟨h1, inner, ⟨hi, ?_⟩, hr⟩, fun j x c hx hc => Kd.FK_step (hf j x c hx hc) (fun k hk _ => Below.heap_setCell W _ u k (fun he => hk.2 (by rw [← hgo, he])))⟩
  rcases hw with ⟨he, -⟩ | ⟨g', cap', cur, he, hb, hh, h2, h3, h4, h5⟩
  · cases he
  · injection he with ha _ hc
    injection ha with ha
    injection ha with hg
    subst hg hc
    refine .inr ⟨g, cap, cur.setIfInBounds o u, by rw [hnl], hb, blk_set hh o u, h2, h3, by simpa using h4, ?_⟩
    rw [← h5]
    have ho' : rows.length * d.sz ≤ o := by rw [← hnl]; exact ho
    apply List.ext_getElem?
    intro j
    rw [List.getElem?_take, List.getElem?_take]
    split
    · rename_i hj
      rw [Array.getElem?_toList, Array.getElem?_toList, Array.getElem?_setIfInBounds_ne (show o ≠ j from fun he => absurd hj (by rw [← he]; exact Nat.not_lt.2 ho'))]
    · rfl
theorem N_pasts {α : Type} {d : Kd α} {e base g n cap : Nat} {ok : Nat → Prop} {xs : List α} : ∀ (vs : List Value) (o : Nat) (W : World), Kd.N d e W base ok (.slice (some ⟨g, 0, none⟩) n cap) xs → n * d.sz ≤ o → Kd.N d e (W.setCells g o vs) base ok (.slice (some ⟨g, 0, none⟩) n cap) xs
  | [], _, _, h, _ => h
  | v :: vs, o, W, h, ho => N_pasts vs (o + 1) _ (N_past2 h ho v) (Nat.le_succ_of_le ho)
theorem grown_sets {a : World} {g : Nat} : ∀ (vs : List Value) (o : Nat) (W : World), a.grownBy W (some g) → a.grownBy (W.setCells g o vs) (some g)
  | [], _, _, h => h
  | v :: vs, o, W, h => grown_sets vs (o + 1) _ ⟨h.os, h.tape, h.output, by rw [World.size_setCell]; exact h.size, fun k hk hne => (Below.heap_setCell W _ v k (fun he => hne (by rw [he]))).trans (h.block k hk hne)⟩
theorem grown_next {w W W' : World} {g : Nat} (h : w.grownBy W (some g)) (hb : Below W.heap.size W W') : w.grownBy W' (some g) :=
  ⟨hb.os.trans h.os, hb.tape.trans h.tape, hb.output.trans h.output, Nat.le_trans h.size hb.size, fun k hk hne => (hb.block k (Nat.lt_of_lt_of_le hk h.size)).trans (h.block k hk hne)⟩
/-- An element of an own row of what is seen: its cells. -/
theorem seen_cells {W : World} {base r n cap : Nat} {ok : Nat → Prop} {xs : List (S83)} (h : Kd.N k83 83 W base ok (.slice (some ⟨r, 0, none⟩) n cap) xs) (j : Nat) (hj : j < n) :
    ∃ x, xs[j]? = some x ∧ W.cell? ⟨r, j * 2, none⟩ = some (.int .i64 x.f0) ∧ W.cell? ⟨r, j * 2 + 1, none⟩ = some (.int .i64 x.f1) ∧ W.frozen? ⟨r, j * 2, none⟩ = false ∧ W.frozen? ⟨r, j * 2 + 1, none⟩ = false := by
  have hn := (Kd.N_reads' h).1
  obtain ⟨c, hc, hk, hcell, hfr⟩ := Kd.N_elem h z83 (j : Int) (by omega) (by omega)
  rw [Int.toNat_natCast] at hk hcell hfr
  have hx : xs[j]? = some (xs.getD j z83) := by rw [List.getD_eq_getElem?_getD, List.getElem?_eq_getElem (by omega)]; rfl
  have hc2 := k83_open (hk W (fun _ _ _ => rfl))
  subst hc2
  exact ⟨_, hx, hcell 0 _ rfl, hcell 1 _ rfl, hfr 0, hfr 1⟩
theorem seen_all {W : World} {base r n cap : Nat} {ok : Nat → Prop} {xs : List (S83)} (h : Kd.N k83 83 W base ok (.slice (some ⟨r, 0, none⟩) n cap) xs) (o : Nat) (ho : o < n * 2) : (W.cell? ⟨r, o, none⟩).isSome = true ∧ W.frozen? ⟨r, o, none⟩ = false := by
  obtain ⟨x, -, q0, q1, f0, f1⟩ := seen_cells h (o / 2) (by omega)
  rcases (by omega : o = o / 2 * 2 ∨ o = o / 2 * 2 + 1) with e | e
  · rw [← e] at q0 f0
    exact ⟨by rw [q0]; rfl, f0⟩
  · rw [← e] at q1 f1
    exact ⟨by rw [q1]; rfl, f1⟩
theorem seen_put {W : World} {base r n cap : Nat} {ok : Nat → Prop} {xs : List (S83)} (h : Kd.N k83 83 W base ok (.slice (some ⟨r, 0, none⟩) n cap) xs) (i : Nat) (hi : i < n) (x : S83) :
    Kd.N k83 83 ((W.setCell ⟨r, i * 2, none⟩ (.int .i64 x.f0)).setCell ⟨r, i * 2 + 1, none⟩ (.int .i64 x.f1)) base ok (.slice (some ⟨r, 0, none⟩) n cap) (xs.set i x) := by
  obtain ⟨y, hy, q0, q1, -, -⟩ := seen_cells h i hi
  exact (Kd.N_seg h (i : Int) (by omega) (by omega) (c := [.int .i64 y.f0, .int .i64 y.f1]) (j := 0) (seg := [.int .i64 x.f0, .int .i64 x.f1]) (x' := x) rfl (fun j u hu => by match j, hu with | 0, hu => exact q0.trans hu | 1, hu => exact q1.trans hu) (show 0 + 2 ≤ 2 by omega) (k83_mkF W _ x) (fun _ hk => hk)).1
theorem first_gone (vs : List Int) : ∀ (l : List (S83)), (¬ ∀ x ∈ l, ¬ x.f0 ∈ vs) → ∃ (n : Nat) (x : S83), l[n]? = some x ∧ x.f0 ∈ vs ∧ ∀ (j : Nat) y, j < n → l[j]? = some y → ¬ y.f0 ∈ vs
  | [], h => absurd (fun x hx => by cases hx) h
  | x :: r, h => by
    by_cases hx : x.f0 ∈ vs
    · exact ⟨0, x, rfl, hx, fun j y hj => absurd hj (Nat.not_lt_zero _)⟩
    · obtain ⟨n, y, h1, h2, h3⟩ := first_gone vs r (fun hr => h (fun z hz => (List.mem_cons.1 hz).elim (fun e => by rw [e]; exact hx) (hr z)))
      refine ⟨n + 1, y, by simpa using h1, h2, fun j z hj hz => ?_⟩
      cases j with
      | zero => simp at hz; subst hz; exact hx
      | succ j => exact h3 j z (by omega) (by simpa using hz)
def kept (vs : List Int) (x : S83) : Bool := !decide (x.f0 ∈ vs)
theorem kept_start (vs : List Int) (l : List (S83)) (n : Nat) (x : S83) (hx : l[n]? = some x) (h : x.f0 ∈ vs) (hm : ∀ (j : Nat) y, j < n → l[j]? = some y → ¬ y.f0 ∈ vs) : l.take n = (l.take (n + 1)).filter (kept vs) := by
  have h1 : (l.take n).filter (kept vs) = l.take n := List.filter_eq_self.2 (fun y hy => by
    obtain ⟨j, hj⟩ := List.mem_iff_getElem?.1 hy
    have hjn : j < n := by have := (List.getElem?_eq_some_iff.1 hj).1; rw [List.length_take] at this; omega
    rw [List.getElem?_take_of_lt hjn] at hj
    simp [kept, hm j y hjn hj])
  rw [List.take_add_one, hx, List.filter_append, h1]
  simp [kept, h]
theorem kept_next (vs : List Int) (l : List (S83)) (n : Nat) (x : S83) (hx : l[n]? = some x) : (l.take (n + 1)).filter (kept vs) = (l.take n).filter (kept vs) ++ (if x.f0 ∈ vs then [] else [x]) := by
  rw [List.take_add_one, hx, List.filter_append]
  congr 1
  by_cases h : x.f0 ∈ vs
  · simp [kept, h]
  · simp [kept, h]
theorem take_put {α : Type} (l : List α) (i : Nat) (x : α) (h : i < l.length) : (l.set i x).take (i + 1) = l.take i ++ [x] := by
  rw [List.take_add_one, List.getElem?_set_self h, List.take_set_of_le (Nat.le_refl i)]
  rfl
theorem seen_zeros (W : World) (r i m cap n' : Nat) (hn : n' = m + 1) (hsome : ∀ j, j < 2 * (m + 1) → (W.cell? ⟨r, i * 2 + j, none⟩).isSome = true) (hfr : ∀ j, j < 2 * (m + 1) → W.frozen? ⟨r, i * 2 + j, none⟩ = false) (ty : Nat) :
    (Builtin.clear_ #[45] ty #[.slice (some ⟨r, i * 2, none⟩) n' cap]).run Tryd.prog W = .ok (.tuple #[]) (W.setCells r (i * 2) (List.replicate (2 * (m + 1)) (.int .i64 0))) := by
  subst hn
  have hu := Tryd.underlying45
  have hst := run_storeCells_cells (P := Tryd.prog) r (i * 2) (List.replicate (2 * (m + 1)) (.int .i64 0)) 0 W (fun j hj => hsome j (by simpa using hj)) (fun j hj => hfr j (by simpa using hj)) (fun q hq => by rw [List.eq_of_mem_replicate hq]; rfl)
  simp only [Nat.add_zero] at hst
  have hzv : ∀ wx, (zeroValue 83).run Tryd.prog wx = .ok (.agg #[.int .i64 0, .int .i64 0]) wx := fun wx => by kernel_rfl
  have hzc : (Builtin.zeroCells (Value.agg #[.int .i64 0, .int .i64 0]).cells (m + 1)).toList = List.replicate (2 * (m + 1)) (.int .i64 0) := by
    rw [List.eq_replicate_iff]
    refine ⟨by simp [Builtin.zeroCells, Value.cells]; omega, fun q hq => ?_⟩
    simp only [Builtin.zeroCells, Array.toList_map, List.mem_map] at hq
    obtain ⟨j, -, rfl⟩ := hq
    have hc : (Value.agg #[.int .i64 0, .int .i64 0]).cells = #[.int .i64 0, .int .i64 0] := by kernel_rfl
    rw [hc]
    have h2 : j % 2 = 0 ∨ j % 2 = 1 := by omega
    show (#[Value.int .i64 0, Value.int .i64 0])[j % 2]! = _
    rcases h2 with h2 | h2 <;> rw [h2] <;> rfl
  simp [Builtin.clear_, run_underlying hu, hzv, hzc, hst]
set_option maxHeartbeats 4000000 in
set_option maxRecDepth 100000 in
/-- slices.DeleteFunc at an own row of what is seen, with the function literal of With. -/
theorem deleteSeen_any (ok : Nat → Prop) (v : Value) (l : List (S83)) (vA : Option Addr) (va : Nat) (vs : List Int) (g base : Nat) (w : World) (HN : Kd.N k83 83 w base ok v l) (hv : Kd.F (Kd.int .i64) w (fun k => k < base) vA vs.length vs) (hg : g < base) (hu : w.cell? ⟨g, 0, none⟩ = some (.slice vA vs.length va)) :
    Calls Tryd.prog 60 #[v, .func (.func 61) #[] #[.pointer (some ⟨g, 0, none⟩)]] w fun e w' => ∃ v', e = .returned v' ∧ Kd.N k83 83 w' base ok v' (l.filter (kept vs)) ∧ v'.ownBlock = v.ownBlock ∧ w.grownBy w' v.ownBlock := by
  have hus := Tryd.underlying45
  have eg := enters_of Tryd.func61 (by kernel_rfl) rfl
  unfold Enters at eg
  by_cases hall : ∀ x ∈ l, ¬ x.f0 ∈ vs
  · have hidx := goneIdx_miss vs l 0 hall
    have hfl : l.filter (kept vs) = l := List.filter_eq_self.2 (fun x hx => by simp [kept, hall x hx])
    rw [hfl]
    obtain ⟨A, c, rfl⟩ := Kd.N_slice HN
    have H := Aside0.mk HN
    have HV := Aside0.mk hv
    have HU := Aside0.mk hu
    clear HN hv hu hall hfl
    go_enter Tryd.func60, Tryd.ntmps60
    go_wp2_with (first | (go_at_call 76; refine (idxSeen_any A c l vA va vs g _ (Kd.N_reads' H.out).2.2 (Kd.F_now HV.out) HU.out).mono ?_; rw [hidx]; rintro e w2 ⟨rfl, hb⟩))
    go_ret
    exact ⟨_, rfl, Kd.N_below H.out hb, rfl, ⟨hb.os, hb.tape, hb.output, hb.size, fun k hk _ => hb.block k hk⟩⟩
  · obtain ⟨n, x0, hx0, hx0g, hmin⟩ := first_gone vs l hall
    have hnl := (List.getElem?_eq_some_iff.1 hx0).1
    have hidx : goneIdx vs l 0 = (n : Int) := by rw [goneIdx_hit vs l 0 n x0 hx0 hx0g hmin]; simp
    have hst := kept_start vs l n x0 hx0 hx0g hmin
    obtain ⟨r, cap, rfl, hbr, hrw, cells, hcells⟩ := Kd.N_form HN (by omega)
    obtain ⟨-, hcap, hC⟩ := Kd.N_reads' HN
    have h63 := hC.2.1
    have hgw := World.block_lt_of_cell? _ _ hu
    have H := Aside0.mk HN
    have HV := Aside0.mk hv
    have HU := Aside0.mk hu
    have HST := Aside0.mk hst
    have hrne : some g ≠ some r := fun e => by have := Option.some.inj e; omega
    clear HN hv hu hall hst hC hcells hx0 hx0g hmin
    have HG := Aside0.mk (show w.grownBy w (some r) from ⟨rfl, rfl, rfl, Nat.le_refl _, fun _ _ _ => rfl⟩)
    go_enter Tryd.func60, Tryd.ntmps60
    go_wp2_with (first | (go_at_call 76; refine (idxSeen_any (some ⟨r, 0, none⟩) cap l vA va vs g _ (Kd.N_reads' H.out).2.2 (Kd.F_now HV.out) HU.out).mono ?_; rw [hidx]; rintro e w2 ⟨rfl, hb⟩))
    have H2 := Aside0.mk (Kd.N_below H.out hb)
    have HG2 := Aside0.mk (grown_next HG.out hb)
    clear hb
    go_loopg [5, 6] l.length (fun gg v5 v6 W => ∃ (i j : Nat) (cur : List (S83)), i < j ∧ j ≤ l.length ∧ l.length - j ≤ gg ∧ v5 = .int .i64 i ∧ v6 = .int .i64 j ∧ Aside0 (cur.length = l.length ∧ cur.take i = (l.take j).filter (kept vs) ∧ cur.drop j = l.drop j) ∧ Aside0 (Kd.N k83 83 W base ok (.slice (some ⟨r, 0, none⟩) l.length cap) cur) ∧ Aside0 (w.grownBy W (some r)))
    case atStart => exact ⟨n, n + 1, l, Nat.lt_succ_self n, by omega, by omega, rfl, by go_num, ⟨⟨rfl, HST.out, rfl⟩⟩, H2, HG2⟩
    case round =>
      clear H2 HG2 HG HST hidx
      obtain ⟨i, j, cur, hij, hj, hgg, rfl, rfl, HC, HN, HG⟩ := hrel
      by_cases hlt : j < l.length
      · obtain ⟨x, hx, q0, q1, -, -⟩ := seen_cells HN.out j hlt
        obtain ⟨y, hy, q2, q3, f2, f3⟩ := seen_cells HN.out i (by omega)
        have HX := Aside0.mk hx
        clear hx hy
        have j0 : decide ((j : Int) < (l.length : Int)) = true := decide_eq_true (by omega)
        have j1 : decide (0 ≤ (j : Int)) = true := decide_eq_true (by omega)
        have j2 : decide (0 ≤ (i : Int)) = true := decide_eq_true (by omega)
        have j3 : decide ((i : Int) < (l.length : Int)) = true := decide_eq_true (by omega)
        have hgc := (World.cell?_of_block (a := ⟨g, 0, none⟩) (HG.out.block g hgw hrne)).trans HU.out
        have HVC := Aside0.mk ((HV.out : Kd.F (Kd.int .i64) w (fun k => k < base) vA vs.length vs) wr (fun k hk hlt => HG.out.block k hlt (fun e => by have := Option.some.inj e; omega)))
        have HGC := Aside0.mk hgc
        clear hgc
        have hgn := congrArg (fun z => z[0]?) HC.out.2.2
        simp only [List.getElem?_drop, Nat.add_zero] at hgn
        have HLX := Aside0.mk (hgn.symm.trans HX.out)
        clear hgn
        have hrlt : r < wr.heap.size := Nat.lt_of_lt_of_le hrw HG.out.size
        have hdn : cur.drop (j + 1) = l.drop (j + 1) := by have h9 := congrArg (List.drop 1) HC.out.2.2; simpa [List.drop_drop, Nat.add_comm] using h9
        have HDN := Aside0.mk hdn
        clear hdn
        have hp := with1_any x vA va vs g (wr.alloc (.cells #[.int .i64 x.f0, .int .i64 x.f1] 83)) (Kd.C_below HVC.out (below_alloc (Below.refl _ _) _)) (cell_later HGC.out (below_alloc (Below.refl _ _) _))
        by_cases he : x.f0 ∈ vs
        · have hd : decide (x.f0 ∈ vs) = true := decide_eq_true he
          rw [hd] at hp
          have HE := Aside0.mk he
          clear he hd
          go_wp2_with (first | (go_at_call 61; refine hp.mono ?_; rintro e w2 ⟨rfl, hb⟩))
          have hb2 := below_step (below_alloc (Below.refl wr.heap.size wr) (.cells #[.int .i64 x.f0, .int .i64 x.f1] 83)) hb
          go_roundg (l.length - (j + 1))
          case measure => omega
          case rel => exact ⟨i, j + 1, cur, by omega, by omega, by omega, rfl, by go_num, ⟨⟨HC.out.1, by rw [HC.out.2.1, kept_next vs l j x HLX.out, if_pos HE.out, List.append_nil], HDN.out⟩⟩, ⟨Kd.N_below HN.out hb2⟩, ⟨grown_next HG.out hb2⟩⟩
        · have hd : decide (x.f0 ∈ vs) = false := decide_eq_false he
          rw [hd] at hp
          have HE := Aside0.mk he
          clear he hd
          go_wp2_with (first | (go_at_call 61; refine hp.mono ?_; rintro e w2 ⟨rfl, hb⟩; have hb2 := Aside0.mk (below_step (below_alloc (Below.refl wr.heap.size wr) (.cells #[.int .i64 x.f0, .int .i64 x.f1] 83)) hb); have hxb := bc0 (blk_call (blk_at (w := wr) (.cells #[.int .i64 x.f0, .int .i64 x.f1] 83)) hb); have r2 := (hb2.out.cell (p := ⟨r, i * 2, none⟩) hrlt).trans q2; have r3 := (hb2.out.cell (p := ⟨r, i * 2 + 1, none⟩) hrlt).trans q3; have s2 := (World.frozen?_of_block (a := ⟨r, i * 2, none⟩) (hb2.out.block r hrlt)).trans f2; have s3 := (World.frozen?_of_block (a := ⟨r, i * 2 + 1, none⟩) (hb2.out.block r hrlt)).trans f3; clear hb q0 q1 q2 q3 f2 f3))
          go_roundg (l.length - (j + 1))
          case measure => omega
          case rel => exact ⟨i + 1, j + 1, cur.set i x, by omega, by omega, by omega, by go_num, by go_num, ⟨⟨by rw [List.length_set]; exact HC.out.1, by rw [take_put _ _ _ (by rw [HC.out.1]; omega), HC.out.2.1, kept_next vs l j x HLX.out, if_neg HE.out], by rw [List.drop_set_of_lt (by omega)]; exact HDN.out⟩⟩, ⟨seen_put (Kd.N_below HN.out hb2.out) i (by omega) x⟩, ⟨grown_sets [.int .i64 x.f0, .int .i64 x.f1] (i * 2) w2 (grown_next HG.out hb2.out)⟩⟩
      · obtain rfl : j = l.length := by omega
        have j0 : decide ((l.length : Int) < (l.length : Int)) = false := decide_eq_false (by omega)
        have j2 : decide (0 ≤ (i : Int)) = true := decide_eq_true (by omega)
        have j3 : decide ((i : Int) ≤ (l.length : Int)) = true := decide_eq_true (by omega)
        have j4 : decide ((i : Int) ≤ (cap : Int)) = true := decide_eq_true (by omega)
        have j5 : i ≤ cap := by omega
        have j6 : i ≤ l.length := by omega
        have j7 := eq_false (show ¬ (cap = i) by omega)
        have hcl := seen_zeros wr r i (l.length - i - 1) (cap - i) (l.length - i) (by omega) (fun q hq => (seen_all HN.out (i * 2 + q) (by omega)).1) (fun q hq => (seen_all HN.out (i * 2 + q) (by omega)).2) 0
        go_wp2
        go_ret
        exact ⟨_, rfl, by rw [show l.filter (kept vs) = cur.take i from by rw [HC.out.2.1, List.take_length]]; exact N_pasts _ _ _ (Kd.N_take HN.out (by rw [HC.out.1]; omega)) (Nat.le_refl _), rfl, grown_sets _ _ _ HG.out⟩
theorem N_cases {α : Type} {d : Kd α} {e base : Nat} {W : World} {ok : Nat → Prop} {v : Value} {xs : List α} (h : Kd.N d e W base ok v xs) : (v = .slice none 0 0 ∧ xs = []) ∨ ∃ r cap, v = .slice (some ⟨r, 0, none⟩) xs.length cap ∧ xs.length ≤ cap := by
  obtain ⟨h0, rows, hl, ⟨h1, inner, ⟨hi, hw⟩, hr⟩, hf⟩ := h
  rcases hw with ⟨he, hn⟩ | ⟨g', cap', cur, he, hb, hh, h2, h3, h4, h5⟩
  · exact .inl ⟨he, List.eq_nil_of_length_eq_zero (by omega)⟩
  · exact .inr ⟨g', cap', by rw [he, hl], by omega⟩
set_option maxHeartbeats 4000000 in
set_option maxRecDepth 100000 in
/-- slices.Insert behind the last of what is seen. -/
theorem insertSeen_any (ok : Nat → Prop) (v : Value) (l : List (S83)) (x : S83) (b base : Nat) (w : World) (HN : Kd.N k83 83 w base ok v l) (hb : w.heap[b]? = some (.cells #[.int .i64 x.f0, .int .i64 x.f1] 83 (0, 0))) (hbo : some b ≠ v.ownBlock) (hok : ok b) (hfresh : ∀ k, w.heap.size ≤ k → ok k) (hbase : base ≤ w.heap.size) (hl : (l.length + 1) * 16 ≤ 140737488355328) :
    Calls Tryd.prog 59 #[v, .int .i64 (l.length : Int), .slice (some ⟨b, 0, none⟩) 1 1] w fun e w' => ∃ v', e = .returned v' ∧ Kd.N k83 83 w' base ok v' (l ++ [x]) ∧ (v'.ownBlock = v.ownBlock ∨ ∃ b', v'.ownBlock = some b' ∧ w.heap.size ≤ b') ∧ w.grownBy w' v.ownBlock := by
  have hus := Tryd.underlying45
  have HV := Aside0.mk (Kd.V_F (V_one (d := k83) (e := 83) (base := 0) (ok := fun k => k = b) (cap := 1) hb rfl rfl rfl (k83_mkF w _ x) (Nat.le_refl 1)))
  have HOK := Aside0.mk (show ∀ k, k = b → ok k ∧ some k ≠ v.ownBlock from fun k hk => by rw [hk]; exact ⟨hok, hbo⟩)
  have HF := Aside0.mk hfresh
  have INFO := Aside0.mk (show (Tryd.prog.info? 83).map (fun i => (i.zero, i.size, i.bytes)) = some (some (.agg #[.int .i64 0, .int .i64 0]), 2, 16) from by kernel_rfl)
  have H := Aside0.mk HN
  have HL := Aside0.mk hl
  have HBS := Aside0.mk hbase
  rcases N_cases HN with ⟨rfl, rfl⟩ | ⟨r, cap, rfl, hcap⟩
  · clear HN hb hbo hok hfresh hl hbase
    go_enter Tryd.func59, Tryd.ntmps59
    go_wp2_with (first | (at_builtin; refine Kd.N_append_rows k83 (w0 := w) base rfl (.tmp 23) (.tmp 24) 45 83 (.agg #[.int .i64 0, .int .i64 0]) 16 rfl hus INFO.out rfl (by decide) (by decide) (.slice none 0 0) [] [x] (some ⟨b, 0, none⟩) 1 1 ok (fun k => k = b) rfl rfl H.out HV.out HOK.out HF.out (Below.refl _ _) HBS.out HL.out ?_; intro v1 w1 ho hb1 hg hat; have HO := Aside0.mk ho; have HG := Aside0.mk hg; have HAT := Aside0.mk hat; clear ho hb1 hg hat))
    go_ret
    exact ⟨_, rfl, HO.out, HAT.out, HG.out⟩
  · have h63 := (Kd.N_reads' HN).2.2.2.1
    have j0 : decide ((l.length : Int) ≤ (l.length : Int)) = true := decide_eq_true (Int.le_refl _)
    have j1 : decide (0 ≤ (l.length : Int)) = true := decide_eq_true (by omega)
    clear HN hb hbo hok hfresh hl hbase
    go_enter Tryd.func59, Tryd.ntmps59
    go_wp2_with (first | (at_builtin; refine Kd.N_append_rows k83 (w0 := w) base rfl (.tmp 23) (.tmp 24) 45 83 (.agg #[.int .i64 0, .int .i64 0]) 16 rfl hus INFO.out rfl (by decide) (by decide) (.slice (some ⟨r, 0, none⟩) l.length cap) l [x] (some ⟨b, 0, none⟩) 1 1 ok (fun k => k = b) rfl rfl H.out HV.out HOK.out HF.out (Below.refl _ _) HBS.out HL.out ?_; intro v1 w1 ho hb1 hg hat; have HO := Aside0.mk ho; have HG := Aside0.mk hg; have HAT := Aside0.mk hat; clear ho hb1 hg hat))
    all_goals
      go_ret
      exact ⟨_, rfl, HO.out, HAT.out, HG.out⟩
theorem seen_R {w : World} {base : Nat} {ok : Nat → Prop} {v : Value} {xs : List (S83)} (h : Kd.N k83 83 w base ok v xs) : Kd.R k83 83 w base (fun _ => True) v xs := by
  obtain ⟨h0, rows, hl, ⟨h1, inner, ho, hr⟩, hf⟩ := h
  refine ⟨fun _ _ => trivial, inner, by rw [← hl]; exact ho, ⟨by rw [← hl]; exact hr.1, fun j x hx => ?_⟩⟩
  have hj := (List.getElem?_eq_some_iff.1 hx).1
  obtain ⟨c, hc⟩ : ∃ c, rows[j]? = some c := ⟨rows[j], List.getElem?_eq_getElem (by omega)⟩
  have hk := k83_open ((hf j x c hx hc) w (fun _ _ _ => rfl))
  have h2 := (hr.2 j c hc).1
  subst hk
  exact h2 ▸ k83_mkM w base _ x
theorem seen_ok {w : World} {base : Nat} {ok ok' : Nat → Prop} {v : Value} {xs : List (S83)} (h : Kd.N k83 83 w base ok v xs) (h' : ∀ k, v.ownBlock = some k → ok' k) : Kd.N k83 83 w base ok' v xs := by
  obtain ⟨h0, rows, hl, hR, hf⟩ := h
  refine ⟨h', rows, hl, hR, fun j x c hx hc => ?_⟩
  have hk := k83_open ((hf j x c hx hc) w (fun _ _ _ => rfl))
  subst hk
  exact k83_mkF w _ x
/-- One change of a view. -/
def withOne (l : List (S83)) (s : S83) : Option (List (S83)) :=
  if l.length ≤ 999999999999 then (if (decide (bsAt l s.f0 < l.length) && ((seenAt l (bsAt l s.f0)).f0 == s.f0)) = true then some (l.set (bsAt l s.f0) s) else if bsAt l s.f0 = l.length then some (l ++ [s]) else none) else none
def withAll : List (S83) → List (S83) → Option (List (S83))
  | [], l => some l
  | s :: r, l => (withOne l s).bind (withAll r)
def views_With.f (v0 : Int) (l0 : List (S83)) (ch : List (S83)) (vs : List Int) (seq : Int) : Option (Int × List (S83)) :=
  if l0.length ≤ 999999999999 then (withAll ch l0).bind fun l => some (seq, l.filter (kept vs)) else none
set_option maxHeartbeats 4000000 in
set_option maxRecDepth 100000 in
theorem views_With.calls (a0_0 : Int) (A0_1 : Option Addr) (c0_1 : Nat) (l0_1 : List (S83)) (A1 : Option Addr) (c1 : Nat) (l1 : List (S83)) (A2 : Option Addr) (c2 : Nat) (l2 : List Int) (a3 : Int) (r1 : Int) (r2 : List (S83)) (w : World) (hr0_1 : Kd.C k83 w A0_1 l0_1.length l0_1) (hc0_1 : l0_1.length ≤ c0_1) (hr1 : Kd.C k83 w A1 l1.length l1) (hc1 : l1.length ≤ c1) (hr2 : Kd.C (Kd.int .i64) w A2 l2.length l2) (hc2 : l2.length ≤ c2) (h : views_With.f a0_0 l0_1 l1 l2 a3 = some (r1, r2)) :
    Calls Tryd.prog 41 #[.agg #[.int .i64 a0_0, .slice A0_1 l0_1.length c0_1], .slice A1 l1.length c1, .slice A2 l2.length c2, .int .i64 a3] w fun e w' => ∃ v1_ : Value, e = .returned (.agg #[.int .i64 r1, v1_]) ∧ Kd.R k83 83 w' w.heap.size (fun _ => True) v1_ r2 ∧ Below w.heap.size w w' := by
  unfold views_With.f at h
  split at h
  case isFalse => cases h
  case isTrue hl0 =>
  obtain ⟨lf, hlf, h⟩ := Option.bind_eq_some_iff.1 h
  cases h
  have hu := Tryd.underlying47
  have hus := Tryd.underlying45
  have huq := Tryd.underlying83
  have H0 := Aside0.mk hr0_1
  have H1 := Aside0.mk hr1
  have H2 := Aside0.mk hr2
  have HLF := Aside0.mk hlf
  clear hr0_1 hr1 hr2 hlf
  have HB := Aside0.mk (below_alloc (below_alloc (below_alloc (Below.refl w.heap.size w) (.cells #[.int .i64 a0_0, .slice A0_1 l0_1.length c0_1] 47)) (.cells #[.slice A2 l2.length c2] 78)) (.cells #[.int .i64 0, .slice none 0 0] 47))
  have HA := Aside0.mk (blk_later (blk_later (blk_at (w := w) (.cells #[.int .i64 a0_0, .slice A0_1 l0_1.length c0_1] 47)) (.cells #[.slice A2 l2.length c2] 78)) (.cells #[.int .i64 0, .slice none 0 0] 47))
  have HV := Aside0.mk (blk_later (blk_at1 (w := w) (.cells #[.int .i64 a0_0, .slice A0_1 l0_1.length c0_1] 47) (.cells #[.slice A2 l2.length c2] 78)) (.cells #[.int .i64 0, .slice none 0 0] 47))
  have HR := Aside0.mk (blk_at2 (w := w) (.cells #[.int .i64 a0_0, .slice A0_1 l0_1.length c0_1] 47) (.cells #[.slice A2 l2.length c2] 78) (.cells #[.int .i64 0, .slice none 0 0] 47))
  go_enter Tryd.func41, Tryd.ntmps41
  have kHA := bc0 HA.out
  go_wp2_with fail
  clear kHA
  have HB0 := HB.out
  have HC := Aside0.mk (Kd.C_below H0.out HB.out)
  clear HB0
  generalize hW0 : ((w.alloc (.cells #[.int .i64 a0_0, .slice A0_1 l0_1.length c0_1] 47)).alloc (.cells #[.slice A2 l2.length c2] 78)).alloc (.cells #[.int .i64 0, .slice none 0 0] 47) = W0 at *
  have hs0 : W0.heap.size = w.heap.size + 1 + 1 + 1 := by rw [← hW0]; simp
  clear hW0
  refine (clone_Seen (fun k_ => k_ < W0.heap.size) A0_1 c0_1 l0_1 W0 (Kd.C_F (Kd.heap_iso _ (Kd.heap_pair (Kd.heap_int _) (Kd.heap_int _))) HC.out) hc0_1 (by omega)).mono ?_
  rintro e w1 ⟨v_, rfl, hn, hb⟩
  have HN0 := Aside0.mk hn
  obtain ⟨vA, vc, rfl⟩ := Kd.N_slice hn
  have hl1 := below_size hb
  clear hn HC
  replace HA := Aside0.mk (blk_call HA.out hb)
  replace HV := Aside0.mk (blk_call HV.out hb)
  replace HR := Aside0.mk (blk_call HR.out hb)
  replace HB := Aside0.mk (below_step HB.out hb)
  clear hb
  clear HA
  go_wp2_with fail
  have HN1 := Aside0.mk (Kd.N_alloc HN0.out (.cells #[.int .i64 a3, .slice vA l0_1.length vc] 47))
  have hlt1 := Kd.N_lt HN0.out
  have hbs1 := Kd.N_base HN0.out
  clear HN0
  have l1_g3 := blk_lt HV.out
  have l2_g3 := blk_lt HR.out
  replace HV := Aside0.mk (blk_later HV.out (.cells #[.int .i64 a3, .slice vA l0_1.length vc] 47))
  replace HR := Aside0.mk (blk_later HR.out (.cells #[.int .i64 a3, .slice vA l0_1.length vc] 47))
  replace HB := Aside0.mk (below_alloc HB.out (.cells #[.int .i64 a3, .slice vA l0_1.length vc] 47))
  have HO := Aside0.mk (blk_at (w := w1) (.cells #[.int .i64 a3, .slice vA l0_1.length vc] 47))
  have hs1 : (w1.alloc (.cells #[.int .i64 a3, .slice vA l0_1.length vc] 47)).heap.size = w1.heap.size + 1 := by simp
  generalize w1.alloc (.cells #[.int .i64 a3, .slice vA l0_1.length vc] 47) = W2 at *
  generalize w1.heap.size = g3 at *
  replace HN1 := Aside0.mk (Kd.N_lower (seen_ok (ok' := (fun k_ => w.heap.size + 3 ≤ k_ ∧ k_ ≠ g3)) HN1.out (fun k_ hk_ => ⟨by have h9 := hbs1 k_ hk_; omega, by have h9 := hlt1 k_ hk_; omega⟩)) (show w.heap.size + 3 ≤ W0.heap.size by omega))
  have d3 : w.heap.size + 3 ≤ g3 := by omega
  clear hlt1 hbs1 hs0 hl1 hs1
  go_loopg [21] l1.length (fun gg v21 W => ∃ (i : Nat) (vA : Option Addr) (vc : Nat) (l : List (S83)), i ≤ l1.length ∧ l1.length - i ≤ gg ∧ v21 = .int .i64 i ∧ Aside0 (withAll (l1.drop i) l = some lf) ∧ Aside0 (W.heap[w.heap.size + 1]? = some (.cells #[.slice A2 l2.length c2] 78 (0, 0))) ∧ Aside0 (W.heap[w.heap.size + 1 + 1]? = some (.cells #[.int .i64 0, .slice none 0 0] 47 (0, 0))) ∧ Aside0 (W.heap[g3]? = some (.cells #[.int .i64 a3, .slice vA l.length vc] 47 (0, 0))) ∧ Aside0 (Kd.N k83 83 W (w.heap.size + 3) (fun k_ => w.heap.size + 3 ≤ k_ ∧ k_ ≠ g3) (.slice vA l.length vc) l) ∧ Aside0 (Below w.heap.size w W))
  case atStart => exact ⟨0, vA, vc, l0_1, Nat.zero_le _, Nat.le_refl _, rfl, HLF, HV, HR, HO, HN1, HB⟩
  case round =>
  clear HLF HV HR HO HN1 HB
  obtain ⟨i, vA, vc, l, hi, hg, rfl, HLF, HV, HR, HO, HN, HB⟩ := hrel
  by_cases hlt : i < l1.length
  · skip
    have hdr : l1.drop i = rd_T83 l1 (i : Int) :: l1.drop (i + 1) := by rw [rd_T83, Int.toNat_natCast, List.getD_eq_getElem?_getD, List.getElem?_eq_getElem hlt]; exact List.drop_eq_getElem_cons hlt
    have hE := HLF.out
    clear HLF
    rw [hdr] at hE
    clear hdr
    simp only [withAll] at hE
    obtain ⟨l', hone, hE⟩ := Option.bind_eq_some_iff.1 hE
    have HLF := Aside0.mk hE
    clear hE
    have h163 := H1.out.2.1
    obtain ⟨ad, hA1, q0, q1⟩ := at_T83 H1.out (i : Int) (by omega) (by omega)
    cases hA1
    rw [Int.toNat_natCast] at q0 q1
    replace q0 := (HB.out.cell (World.block_lt_of_cell? w _ q0)).trans q0
    replace q1 := (HB.out.cell (World.block_lt_of_cell? w _ q1)).trans q1
    generalize rd_T83 l1 (i : Int) = x at *
    unfold withOne at hone
    split at hone
    case isFalse => cases hone
    case isTrue hln =>
    have i0 : decide ((i : Int) < (l1.length : Int)) = true := decide_eq_true (by omega)
    have i1 : decide (0 ≤ (i : Int)) = true := decide_eq_true (by omega)
    obtain ⟨-, hvc, hCN⟩ := Kd.N_reads' HN.out
    have HCN := Aside0.mk hCN
    clear hCN
    obtain ⟨fnd, hfnd⟩ : ∃ fnd, (decide (bsAt l x.f0 < l.length) && ((seenAt l (bsAt l x.f0)).f0 == x.f0)) = fnd := ⟨_, rfl⟩
    rw [hfnd] at hone
    have kHO := bc0 HO.out
    have mHO := bc1 HO.out
    have yHO := blk_lt HO.out
    have h3 := HB.out.size
    cases fnd with
    | true =>
      rw [if_pos rfl] at hone
      cases hone
      have hml : bsAt l x.f0 < l.length := of_decide_eq_true (Bool.and_eq_true _ _ ▸ hfnd).1
      obtain ⟨m, hmm⟩ : ∃ m, bsAt l x.f0 = m := ⟨_, rfl⟩
      rw [hmm] at hfnd hml HLF
      rcases N_cases HN.out with ⟨-, hnil⟩ | ⟨r, cap, hsl, hcap⟩
      · rw [hnil] at hml; exact absurd hml (Nat.not_lt_zero _)
      injection hsl with hs1 hs2 hs3
      subst hs1 hs3
      clear hs2
      have hr3 := HN.out.1 r rfl
      go_wp2_with fail
      refine (bsearch_any (some ⟨r, 0, none⟩) vc l x.f0 _ (Kd.C_below HCN.out (below_alloc (Below.refl _ _) _)) (by omega)).mono ?_
      rw [hmm, hfnd]
      rintro e w2 ⟨rfl, hb⟩
      clear kHO mHO yHO q0 q1
      have hb2 := below_step (below_alloc (Below.refl wr.heap.size wr) (.cells #[.int .i64 x.f0, .int .i64 x.f1] 83)) hb
      have hz2 := below_size hb2
      replace HV := Aside0.mk (blk_call HV.out hb2)
      replace HR := Aside0.mk (blk_call HR.out hb2)
      replace HO := Aside0.mk (blk_call HO.out hb2)
      have HX := Aside0.mk (blk_call (blk_at (w := wr) (.cells #[.int .i64 x.f0, .int .i64 x.f1] 83)) hb)
      replace HN := Aside0.mk (Kd.N_below HN.out hb2)
      have HB2 := Aside0.mk (below_step HB.out hb2)
      clear hb hb2
      obtain ⟨y, -, q2, q3, f2, f3⟩ := seen_cells HN.out m hml
      have kHO := bc0 HO.out
      have kHX := bc0 HX.out
      have j0 : decide (0 ≤ (m : Int)) = true := decide_eq_true (by omega)
      have j1 : decide ((m : Int) < (l.length : Int)) = true := decide_eq_true (by omega)
      go_wp2_with fail
      clear kHO kHX q2 q3 f2 f3
      go_roundg (l1.length - (i + 1))
      case measure => omega
      case rel => exact ⟨i + 1, some ⟨r, 0, none⟩, vc, l.set m x, by omega, by omega, by go_num, HLF, ⟨blk_far (p := ⟨r, m * 2 + 1, none⟩) (blk_far (p := ⟨r, m * 2, none⟩) HV.out (show w.heap.size + 1 ≠ r by omega) _) (show w.heap.size + 1 ≠ r by omega) _⟩, ⟨blk_far (p := ⟨r, m * 2 + 1, none⟩) (blk_far (p := ⟨r, m * 2, none⟩) HR.out (show w.heap.size + 1 + 1 ≠ r by omega) _) (show w.heap.size + 1 + 1 ≠ r by omega) _⟩, by rw [List.length_set]; exact ⟨blk_far (p := ⟨r, m * 2 + 1, none⟩) (blk_far (p := ⟨r, m * 2, none⟩) HO.out (Ne.symm hr3.2) _) (Ne.symm hr3.2) _⟩, by rw [List.length_set]; exact ⟨seen_put HN.out m hml x⟩, ⟨below_set (below_set HB2.out (show w.heap.size ≤ r by omega)) (show w.heap.size ≤ r by omega)⟩⟩
    | false =>
      rw [if_neg (by simp)] at hone
      split at hone
      case isFalse => cases hone
      case isTrue hm =>
      cases hone
      rw [hm] at hfnd
      go_wp2_with fail
      refine (bsearch_any vA vc l x.f0 _ (Kd.C_below HCN.out (below_alloc (Below.refl _ _) _)) (by omega)).mono ?_
      rw [hm, hfnd]
      rintro e w2 ⟨rfl, hb⟩
      have yO := yHO
      clear kHO mHO yHO q0 q1
      have hb2 := below_step (below_alloc (Below.refl wr.heap.size wr) (.cells #[.int .i64 x.f0, .int .i64 x.f1] 83)) hb
      have hz2 := below_size hb2
      replace HV := Aside0.mk (blk_call HV.out hb2)
      replace HR := Aside0.mk (blk_call HR.out hb2)
      replace HO := Aside0.mk (blk_call HO.out hb2)
      have HX := Aside0.mk (blk_call (blk_at (w := wr) (.cells #[.int .i64 x.f0, .int .i64 x.f1] 83)) hb)
      replace HN := Aside0.mk (Kd.N_below HN.out hb2)
      have HB2 := Aside0.mk (below_step HB.out hb2)
      clear hb hb2
      have kHO := bc0 HO.out
      have kHX := bc0 HX.out
      go_wp2_with fail
      clear kHO kHX
      have hown := HN.out.1
      have hlt2 := Kd.N_lt HN.out
      refine (insertSeen_any (fun k_ => w.heap.size + 3 ≤ k_ ∧ k_ ≠ g3) (.slice vA l.length vc) l x w2.heap.size (w.heap.size + 3) (w2.alloc (.cells #[.int .i64 x.f0, .int .i64 x.f1] 83)) (Kd.N_alloc HN.out _) (blk_at _) (fun e => by have h9 := hlt2 _ e.symm; omega) ⟨by omega, by omega⟩ (fun k_ hk_ => by simp only [World.size_alloc] at hk_; exact ⟨by omega, by omega⟩) (by simp only [World.size_alloc]; omega) (by omega)).mono ?_
      rintro e w4 ⟨v4, rfl, hn4, hat, hg4⟩
      obtain ⟨vA', vc', rfl⟩ := Kd.N_slice hn4
      have HN4 := Aside0.mk hn4
      replace HV := Aside0.mk ((hg4.block (w.heap.size + 1) (by simp only [World.size_alloc]; omega) (fun e => by have h9 := (hown _ e.symm).1; omega)).trans (blk_later HV.out _))
      replace HR := Aside0.mk ((hg4.block (w.heap.size + 1 + 1) (by simp only [World.size_alloc]; omega) (fun e => by have h9 := (hown _ e.symm).1; omega)).trans (blk_later HR.out _))
      replace HO := Aside0.mk ((hg4.block (g3) (by simp only [World.size_alloc]; omega) (fun e => (hown _ e.symm).2 rfl)).trans (blk_later HO.out _))
      have HB4 := Aside0.mk ((below_alloc HB2.out (.cells #[.int .i64 x.f0, .int .i64 x.f1] 83)).grown hg4 (by simp only [World.size_alloc]; omega) (fun k_ hk_ => by have h9 := (hown _ hk_).1; omega))
      clear hn4 hat hg4
      have kHO := bc0 HO.out
      have fHO := bf0 HO.out
      have yHO := blk_lt HO.out
      go_wp2_with fail
      clear kHO fHO yHO
      go_roundg (l1.length - (i + 1))
      case measure => omega
      case rel => exact ⟨i + 1, vA', vc', l ++ [x], by omega, by omega, by go_num, HLF, ⟨blk_far (p := ⟨g3, 1, none⟩) HV.out (show w.heap.size + 1 ≠ g3 by omega) _⟩, ⟨blk_far (p := ⟨g3, 1, none⟩) HR.out (show w.heap.size + 1 + 1 ≠ g3 by omega) _⟩, by rw [List.length_append, List.length_singleton]; exact ⟨blk_put HO.out 1 _ rfl⟩, ⟨Kd.N_far (p := ⟨g3, 1, none⟩) HN4.out (fun k_ hk_ => hk_.2) _⟩, ⟨below_set HB4.out (show w.heap.size ≤ g3 by omega)⟩⟩
  · obtain rfl : i = l1.length := by omega
    have hE := HLF.out
    clear HLF
    rw [List.drop_length] at hE
    simp only [withAll] at hE
    obtain rfl := Option.some.inj hE
    clear hE
    have i0 : decide ((l1.length : Int) < (l1.length : Int)) = false := decide_eq_false (by omega)
    have kHO := bc0 HO.out
    go_wp2_with fail
    clear kHO
    have hown := HN.out.1
    have h3 := HB.out.size
    have yV := blk_lt HV.out
    have yR := blk_lt HR.out
    have yO := blk_lt HO.out
    refine (deleteSeen_any (fun k_ => w.heap.size + 3 ≤ k_ ∧ k_ ≠ g3) (.slice vA l.length vc) l A2 c2 l2 (w.heap.size + 1) (w.heap.size + 3) wr HN.out (Kd.F_mono (Kd.F_below (Kd.C_F (Kd.heap_int _) H2.out) HB.out) (fun k_ hk_ => by omega)) (by omega) (bc0 HV.out 0)).mono ?_
    rintro e w2 ⟨v4, rfl, hn4, -, hg4⟩
    obtain ⟨vA', vc', rfl⟩ := Kd.N_slice hn4
    have HN4 := Aside0.mk hn4
    replace HR := Aside0.mk ((hg4.block (w.heap.size + 1 + 1) yR (fun e => by have h9 := (hown _ e.symm).1; omega)).trans HR.out)
    replace HO := Aside0.mk ((hg4.block (g3) yO (fun e => (hown _ e.symm).2 rfl)).trans HO.out)
    have HB4 := Aside0.mk (HB.out.grown hg4 h3 (fun k_ hk_ => by have h9 := (hown _ hk_).1; omega))
    clear hn4 hg4
    have kHO := bc0 HO.out
    have fHO := bf0 HO.out
    have yHO := blk_lt HO.out
    have kHR := bc0 HR.out
    have fHR := bf0 HR.out
    have yHR := blk_lt HR.out
    have ne1 := eq_false (show ¬ (g3 = w.heap.size + 1 + 1) by omega)
    have ne2 := eq_false (show ¬ (w.heap.size + 1 + 1 = g3) by omega)
    go_wp2
    clear kHO kHR fHO fHR
    refine bodyPost_ret (results_cell_row rfl _ _ (w.heap.size + 1 + 1) 47 #[.int .i64 a3, .slice vA' (l.filter (kept l2)).length vc'] (0, 0) _ rfl (by refine blk_put (cs := #[.int .i64 a3, .slice none 0 0]) ?_ 1 _ rfl; refine blk_put (cs := #[.int .i64 0, .slice none 0 0]) ?_ 0 _ rfl; exact blk_far (p := ⟨g3, 1, none⟩) HR.out (show w.heap.size + 1 + 1 ≠ g3 by omega) _) Tryd.underlying47 rfl (by kernel_rfl)) rfl ⟨_, rfl, seen_R (Kd.N_far (p := ⟨w.heap.size + 1 + 1, 1, none⟩) (Kd.N_far (p := ⟨w.heap.size + 1 + 1, 0, none⟩) (Kd.N_far (p := ⟨g3, 1, none⟩) (Kd.N_lower HN4.out (by omega)) (fun k_ hk_ => hk_.2) _) (fun k_ hk_ => by show k_ ≠ w.heap.size + 1 + 1; have h9 := hk_.1; omega) _) (fun k_ hk_ => by show k_ ≠ w.heap.size + 1 + 1; have h9 := hk_.1; omega) _), below_set (below_set (below_set HB4.out (show w.heap.size ≤ g3 by omega)) (show w.heap.size ≤ w.heap.size + 1 + 1 by omega)) (show w.heap.size ≤ w.heap.size + 1 + 1 by omega)⟩


end Go.Proofs.YtbnmddippoiabaaDoor.P
