/- Functions of this seat as Lean functions, and that the Go code comes to their answers: written by a program of this session's. -/
import Derived.Test.YtbnmddippoiabaaDoorO6x25
import Derived.Test.YtbnmddippoiabaaDoorO6x10
import Derived.Test.YtbnmddippoiabaaDoorO6x19
import Derived.Test.YtbnmddippoiabaaDoorO6x20
import Derived.Test.YtbnmddippoiabaaDoorO6x26
import Derived.Test.YtbnmddippoiabaaDoorO6x22
import Derived.Test.YtbnmddippoiabaaDoorO6x24
import Derived.Test.YtbnmddippoiabaaDoorO6x27
namespace Go.Proofs.YtbnmddippoiabaaDoor.P
open Go.RowKit Go.Proofs.YtbnmddippoiabaaDoorW.PrintWords Go.Proofs.YtbnmddippoiabaaDoorW.PrintLast Go.Proofs.YtbnmddippoiabaaDoorW.PrintMore
attribute [local go_sem] max2_int min2_int max_two min_two max_three min_three max_four min_four   -- for this text's walks alone
set_option linter.unusedVariables false
set_option linter.unusedSimpArgs false

/-! ### offline_Merge: function 7 -/
def mergeAll (base : Int) : List (S43) → Int → Int → Int → List (S55) → List (S75) → List (Int × Int) → (Int × Int × Int × List (S55) × List (S75)) × List (S68)
  | [], a0, a1, a2, l3, l4, _ => ((a0, a1, a2, l3, l4), [])
  | q :: l, a0, a1, a2, l3, l4, own =>
    if outcomeOf a1 l3 own base q = 0 then
      ((mergeAll base l (doOf a0 a1 a2 l3 l4 q).1 (doOf a0 a1 a2 l3 l4 q).2.1 (doOf a0 a1 a2 l3 l4 q).2.2.1 (doOf a0 a1 a2 l3 l4 q).2.2.2.1 (doOf a0 a1 a2 l3 l4 q).2.2.2.2 (ownNext a0 a1 a2 l3 l4 own base q)).1,
       ⟨q.f0, true, 0⟩ :: (mergeAll base l (doOf a0 a1 a2 l3 l4 q).1 (doOf a0 a1 a2 l3 l4 q).2.1 (doOf a0 a1 a2 l3 l4 q).2.2.1 (doOf a0 a1 a2 l3 l4 q).2.2.2.1 (doOf a0 a1 a2 l3 l4 q).2.2.2.2 (ownNext a0 a1 a2 l3 l4 own base q)).2)
    else ((mergeAll base l a0 a1 a2 l3 l4 own).1, ⟨q.f0, false, outcomeOf a1 l3 own base q⟩ :: (mergeAll base l a0 a1 a2 l3 l4 own).2)
theorem set_ok {w : World} {base : Nat} {ok ok' : Nat → Prop} {v : Value} {xs : List (S68)} (h : Kd.N k68 68 w base ok v xs) (h' : ∀ k, v.ownBlock = some k → ok' k) : Kd.N k68 68 w base ok' v xs := by
  obtain ⟨h0, rows, hl, hR, hf⟩ := h
  refine ⟨h', rows, hl, hR, fun j x c hx hc => ?_⟩
  have hk := k68_open ((hf j x c hx hc) w (fun _ _ _ => rfl))
  subst hk
  exact k68_mkF w _ x
theorem GN_after {u u1 v : Value} {W w1 : World} {base : Nat} {ok : Nat → Prop} {xs : List (S75)} (h : GN W base (fun k => ok k ∧ some k ≠ u.ownBlock) v xs) (hg : W.grownBy w1 u.ownBlock) (hat : u1.ownBlock = u.ownBlock ∨ ∃ b, u1.ownBlock = some b ∧ W.heap.size ≤ b) : GN w1 base (fun k => ok k ∧ some k ≠ u1.ownBlock) v xs := by
  have ho := GN_own h
  refine GN_ok (GN_at h (fun k hk hlt => hg.block k hlt (ho k hk).2.1.2)) (fun k hk => ⟨(ho k hk).2.1.1, fun he => ?_⟩)
  rcases hat with e | ⟨b, e, hb⟩
  · exact (ho k hk).2.1.2 (by rw [← e]; exact he)
  · rw [e] at he
    have := Option.some.inj he
    have := (ho k hk).2.2
    omega
/-- Blocks of the loop's own rows. -/
def OkM (bs P B : Nat) (u : Option Nat) (k : Nat) : Prop := bs ≤ k ∧ k ≠ P ∧ k ≠ B ∧ some k ≠ u
/-- What the loop holds: the mailbox in block P with its two rows, the report, the map in block B. -/
structure Rows (W : World) (bs P B : Nat) (m0 m1 m2 : Int) (v3 : Value) (l3 : List (S55)) (v4 : Value) (l4 : List (S75)) (rv : Value) (done : List (S68)) (own : List (Int × Int)) : Prop where
  p : W.heap[P]? = some (.cells #[.int .i64 m0, .int .i64 m1, .int .i64 m2, v3, v4] 25 (0, 0))
  n3 : Kd.N k55 55 W bs (fun k_ => OkM bs P B rv.ownBlock k_ ∧ some k_ ≠ v4.ownBlock) v3 l3
  n4 : GN W bs (fun k_ => OkM bs P B rv.ownBlock k_ ∧ some k_ ≠ v3.ownBlock) v4 l4
  nr : Kd.N k68 68 W bs (fun k_ => OkM bs P B v3.ownBlock k_ ∧ some k_ ≠ v4.ownBlock) rv done
  mw : MW W B own
  bp : bs ≤ P
  bb : bs ≤ B
  pb : P ≠ B
section
variable {W W' : World} {bs P B : Nat} {m0 m1 m2 : Int} {v3 : Value} {l3 : List (S55)} {v4 : Value} {l4 : List (S75)} {rv : Value} {done : List (S68)} {own : List (Int × Int)}
theorem Rows.below (h : Rows W bs P B m0 m1 m2 v3 l3 v4 l4 rv done own) (hb : Below W.heap.size W W') : Rows W' bs P B m0 m1 m2 v3 l3 v4 l4 rv done own :=
  ⟨blk_call h.p hb, Kd.N_below h.n3 hb, GN_below h.n4 hb, Kd.N_below h.nr hb, MW_below h.mw hb, h.bp, h.bb, h.pb⟩
theorem Rows.drew (h : Rows W bs P B m0 m1 m2 v3 l3 v4 l4 rv done own) : Rows W.drew bs P B m0 m1 m2 v3 l3 v4 l4 rv done own := h.below (below_drew (Below.refl _ _))
theorem Rows.alloc (h : Rows W bs P B m0 m1 m2 v3 l3 v4 l4 rv done own) (o : Obj) : Rows (W.alloc o) bs P B m0 m1 m2 v3 l3 v4 l4 rv done own := h.below (below_alloc (Below.refl _ _) o)
theorem Rows.o3 (h : Rows W bs P B m0 m1 m2 v3 l3 v4 l4 rv done own) : ∀ k, v3.ownBlock = some k → OkM bs P B rv.ownBlock k ∧ some k ≠ v4.ownBlock ∧ k < W.heap.size := fun k hk => ⟨(h.n3.1 k hk).1, (h.n3.1 k hk).2, Kd.N_lt h.n3 k hk⟩
theorem Rows.o4 (h : Rows W bs P B m0 m1 m2 v3 l3 v4 l4 rv done own) : ∀ k, v4.ownBlock = some k → OkM bs P B rv.ownBlock k ∧ some k ≠ v3.ownBlock ∧ k < W.heap.size := fun k hk => ⟨(GN_own h.n4 k hk).2.1.1, (GN_own h.n4 k hk).2.1.2, (GN_own h.n4 k hk).2.2⟩
theorem Rows.or (h : Rows W bs P B m0 m1 m2 v3 l3 v4 l4 rv done own) : ∀ k, rv.ownBlock = some k → OkM bs P B v3.ownBlock k ∧ some k ≠ v4.ownBlock ∧ k < W.heap.size := fun k hk => ⟨(h.nr.1 k hk).1, (h.nr.1 k hk).2, Kd.N_lt h.nr k hk⟩
theorem Rows.fresh (h : Rows W bs P B m0 m1 m2 v3 l3 v4 l4 rv done own) : ∀ k, W.heap.size ≤ k → OkM bs P B rv.ownBlock k := fun k hk => by
  have h1 := blk_lt h.p
  have h2 := MW_lt h.mw
  have h3 := h.bp
  exact ⟨by omega, by omega, by omega, fun he => by have := (h.or k he.symm).2.2; omega⟩
/-- The report is longer by one. -/
theorem Rows.append (h : Rows W bs P B m0 m1 m2 v3 l3 v4 l4 rv done own) {w1 : World} {rv1 : Value} {done1 : List (S68)} {ok1 : Nat → Prop} (hn : Kd.N k68 68 w1 bs ok1 rv1 done1) (hg : W.grownBy w1 rv.ownBlock) (hat : rv1.ownBlock = rv.ownBlock ∨ ∃ b, rv1.ownBlock = some b ∧ W.heap.size ≤ b) : Rows w1 bs P B m0 m1 m2 v3 l3 v4 l4 rv1 done1 own := by
  have hP : some P ≠ rv.ownBlock := fun he => (h.or P he.symm).1.2.1 rfl
  have hB : some B ≠ rv.ownBlock := fun he => (h.or B he.symm).1.2.2.1 rfl
  have hBl := MW_lt h.mw
  refine ⟨blk_grown h.p hg hP, ?_, ?_, set_ok hn (fun k hk => ?_), MW_step h.mw (hg.block B hBl hB), h.bp, h.bb, h.pb⟩
  · have h9 : Kd.N k55 55 W bs (fun k_ => (OkM bs P B none k_ ∧ some k_ ≠ v4.ownBlock) ∧ some k_ ≠ rv.ownBlock) v3 l3 := Kd.N_mono h.n3 (fun k hk => ⟨⟨⟨hk.1.1, hk.1.2.1, hk.1.2.2.1, by simp⟩, hk.2⟩, hk.1.2.2.2⟩)
    exact Kd.N_mono (Kd.N_after h9 hg hat) (fun k hk => ⟨⟨hk.1.1.1, hk.1.1.2.1, hk.1.1.2.2.1, hk.2⟩, hk.1.2⟩)
  · have h9 : GN W bs (fun k_ => (OkM bs P B none k_ ∧ some k_ ≠ v3.ownBlock) ∧ some k_ ≠ rv.ownBlock) v4 l4 := GN_mono h.n4 (fun k hk => ⟨⟨⟨hk.1.1, hk.1.2.1, hk.1.2.2.1, by simp⟩, hk.2⟩, hk.1.2.2.2⟩)
    exact GN_mono (GN_after h9 hg hat) (fun k hk => ⟨⟨hk.1.1.1, hk.1.1.2.1, hk.1.1.2.2.1, hk.2⟩, hk.1.2⟩)
  · rcases hat with e | ⟨b, e, hb⟩
    · have := h.or k (by rw [← e]; exact hk)
      exact ⟨this.1, this.2.1⟩
    · rw [e] at hk
      obtain rfl := Option.some.inj hk
      have hPl := blk_lt h.p
      have hbp := h.bp
      exact ⟨⟨by omega, by omega, by omega, fun he => by have := (h.o3 b he.symm).2.2; omega⟩, fun he => by have := (h.o4 b he.symm).2.2; omega⟩
/-- A change of the mailbox itself. -/
theorem Rows.did (h : Rows W bs P B m0 m1 m2 v3 l3 v4 l4 rv done own) {w9 : World} {d0 d1 d2 : Int} {u3 u4 : Value} {e3 : List (S55)} {e4 : List (S75)} (hP : w9.heap[P]? = some (.cells #[.int .i64 d0, .int .i64 d1, .int .i64 d2, u3, u4] 25 (0, 0))) (h3 : Kd.N k55 55 w9 bs (fun k_ => OkM bs P B rv.ownBlock k_ ∧ some k_ ≠ u4.ownBlock) u3 e3) (h4 : GN w9 bs (fun k_ => OkM bs P B rv.ownBlock k_ ∧ some k_ ≠ u3.ownBlock) u4 e4)
    (hk : Keeps P v3.ownBlock v4.ownBlock W w9) : Rows w9 bs P B d0 d1 d2 u3 e3 u4 e4 rv done own := by
  have hB3 : some B ≠ v3.ownBlock := fun he => (h.o3 B he.symm).1.2.2.1 rfl
  have hB4 : some B ≠ v4.ownBlock := fun he => (h.o4 B he.symm).1.2.2.1 rfl
  refine ⟨hP, h3, h4, set_ok (Kd.N_step h.nr (fun k hok hlt => hk k hlt hok.1.2.1 hok.1.2.2.2 hok.2)) (fun k hr => ?_), MW_step h.mw (hk B (MW_lt h.mw) (fun e => h.pb e.symm) hB3 hB4), h.bp, h.bb, h.pb⟩
  have ho := h.or k hr
  exact ⟨⟨ho.1.1, ho.1.2.1, ho.1.2.2.1, fun he => (h3.1 k he.symm).1.2.2.2 hr.symm⟩, fun he => (GN_own h4 k he.symm).2.1.1.2.2.2 hr.symm⟩
/-- The map gets a number. -/
theorem Rows.put (h : Rows W bs P B m0 m1 m2 v3 l3 v4 l4 rv done own) {w1 : World} {own1 : List (Int × Int)} (hm : MW w1 B own1) (hg : W.grownBy w1 (some B)) : Rows w1 bs P B m0 m1 m2 v3 l3 v4 l4 rv done own1 :=
  ⟨blk_grown h.p hg (fun he => h.pb (Option.some.inj he)), Kd.N_grown h.n3 hg (fun k hk he => hk.1.2.2.1 (Option.some.inj he)), GN_grown h.n4 hg (fun k hk he => hk.1.2.2.1 (Option.some.inj he)), Kd.N_grown h.nr hg (fun k hk he => hk.1.2.2.1 (Option.some.inj he)), hm, h.bp, h.bb, h.pb⟩
end
theorem heapFieldM : Kd.Heap k98 := Kd.heap_iso _ (Kd.heap_pair Kd.heap_string Kd.heap_string)
theorem heapMessageM : Kd.Heap k53 := Kd.heap_iso _ (Kd.heap_pair (Kd.heap_slice _ heapFieldM) (Kd.heap_slice _ (Kd.heap_int _)))
theorem heapStoredM : Kd.Heap k55 := Kd.heap_iso _ (Kd.heap_pair (Kd.heap_int _) (Kd.heap_pair (Kd.heap_int _) (Kd.heap_pair (Kd.heap_int _) (Kd.heap_pair (Kd.heap_int _) heapMessageM))))
theorem heapGoneM : Kd.Heap k75 := Kd.heap_iso _ (Kd.heap_pair (Kd.heap_int _) (Kd.heap_int _))
theorem merge_fault {x y : Int} (h : ¬ (x, y) = (0, 0)) : (x == 0 && (y == 0)) = false := by
  by_cases h1 : x = 0
  · by_cases h2 : y = 0
    · exact absurd (by rw [h1, h2]) h
    · rw [beq_eq_false_iff_ne.2 h2, Bool.and_false]
  · rw [beq_eq_false_iff_ne.2 h1, Bool.false_and]
def msized (l3 : List (S55)) (l4 : List (S75)) (ql : List (S43)) : Prop := l3.length ≤ 1000000 ∧ l4.length ≤ 1000000 ∧ ql.length ≤ 1000000 ∧ ∀ e ∈ l3, e.f4.f0.length ≤ 1000000 ∧ e.f4.f1.length ≤ 1000000
instance msized_dec (l3 : List (S55)) (l4 : List (S75)) (ql : List (S43)) : Decidable (msized l3 l4 ql) := by unfold msized; infer_instance
def offline_Merge.f (k : Nat) (a0 a1 a2 : Int) (l3 : List (S55)) (l4 : List (S75)) (base : Int) (ql : List (S43)) : Option (Int × Int × Int × (List (S55)) × (List (S75)) × (List (S68)) × Int × Int) :=
  (mailbox_Validate.f k a0 a1 a2 l3 l4).bind fun t => if t = (0, 0) then
    (if base < 1 ∨ a1 < base then some (0, 0, 0, [], [], [], 3, -4)
     else (offline_queued.f k ql).bind fun u => if u = (0, 0) then
       (if msized l3 l4 ql then some ((mergeAll base ql a0 a1 a2 l3 l4 []).1.1, (mergeAll base ql a0 a1 a2 l3 l4 []).1.2.1, (mergeAll base ql a0 a1 a2 l3 l4 []).1.2.2.1, (mergeAll base ql a0 a1 a2 l3 l4 []).1.2.2.2.1, (mergeAll base ql a0 a1 a2 l3 l4 []).1.2.2.2.2, (mergeAll base ql a0 a1 a2 l3 l4 []).2, 0, 0) else none)
       else some (0, 0, 0, [], [], [], u.1, u.2))
  else some (0, 0, 0, [], [], [], t.1, t.2)
theorem offline_Merge.mono : ∀ a0 a1 a2 a3 a4 a5 a6 k, LeO (offline_Merge.f k a0 a1 a2 a3 a4 a5 a6) (offline_Merge.f (k + 1) a0 a1 a2 a3 a4 a5 a6) := by
  intro a0 a1 a2 a3 a4 a5 a6 k
  unfold offline_Merge.f
  exact LeO.bind (mailbox_Validate.mono _ _ _ _ _ _) (fun _ => LeO.ite (LeO.ite (LeO.refl _) (LeO.bind (offline_queued.mono _ _) (fun _ => LeO.refl _))) (LeO.refl _))
theorem mergeAll_is0 {base : Int} {q : S43} {l : List (S43)} {a0 a1 a2 : Int} {l3 : List (S55)} {l4 : List (S75)} {own : List (Int × Int)} {d0 d1 d2 : Int} {e3 : List (S55)} {e4 : List (S75)} {own1 : List (Int × Int)} (h : outcomeOf a1 l3 own base q = 0) (hd : doOf a0 a1 a2 l3 l4 q = (d0, d1, d2, e3, e4)) (ho : ownNext a0 a1 a2 l3 l4 own base q = own1) {done sl : List (S68)} {fin : Int × Int × Int × List (S55) × List (S75)} (hm : (mergeAll base (q :: l) a0 a1 a2 l3 l4 own).1 = fin ∧ done ++ (mergeAll base (q :: l) a0 a1 a2 l3 l4 own).2 = sl) :
    (mergeAll base l d0 d1 d2 e3 e4 own1).1 = fin ∧ (done ++ [⟨q.f0, true, 0⟩]) ++ (mergeAll base l d0 d1 d2 e3 e4 own1).2 = sl := by
  rw [mergeAll, if_pos h, hd, ho] at hm
  exact ⟨hm.1, by rw [List.append_assoc]; exact hm.2⟩
theorem mergeAll_is1 {base : Int} {q : S43} {l : List (S43)} {a0 a1 a2 : Int} {l3 : List (S55)} {l4 : List (S75)} {own : List (Int × Int)} (h : ¬ outcomeOf a1 l3 own base q = 0) {done sl : List (S68)} {fin : Int × Int × Int × List (S55) × List (S75)} (hm : (mergeAll base (q :: l) a0 a1 a2 l3 l4 own).1 = fin ∧ done ++ (mergeAll base (q :: l) a0 a1 a2 l3 l4 own).2 = sl) :
    (mergeAll base l a0 a1 a2 l3 l4 own).1 = fin ∧ (done ++ [⟨q.f0, false, outcomeOf a1 l3 own base q⟩]) ++ (mergeAll base l a0 a1 a2 l3 l4 own).2 = sl := by
  rw [mergeAll, if_neg h] at hm
  exact ⟨hm.1, by rw [List.append_assoc]; exact hm.2⟩
theorem doOf_wf {a0 a1 a2 : Int} {l3 : List (S55)} {l4 : List (S75)} {q : S43} {d0 d1 d2 : Int} {e3 : List (S55)} {e4 : List (S75)} (hw : (Lit.int .i64 a1).wf = true) (hd : doOf a0 a1 a2 l3 l4 q = (d0, d1, d2, e3, e4)) : (Lit.int .i64 d1).wf = true := by
  have h : (doOf a0 a1 a2 l3 l4 q).2.1 = d1 := by rw [hd]
  rw [← h]
  unfold doOf mailbox_Do.m
  split
  · exact wrap64_wf _
  · split
    · split
      · exact hw
      · exact wrap64_wf _
    · exact wrap64_wf _
theorem doOf_gone {a0 a1 a2 : Int} {l3 : List (S55)} {l4 : List (S75)} {q : S43} {d0 d1 d2 : Int} {e3 : List (S55)} {e4 : List (S75)} (hd : doOf a0 a1 a2 l3 l4 q = (d0, d1, d2, e3, e4)) : e4.length ≤ l4.length + 1 := by
  have h : (doOf a0 a1 a2 l3 l4 q).2.2.2.2 = e4 := by rw [hd]
  rw [← h]
  unfold doOf mailbox_Do.m
  split
  · exact Nat.le_succ _
  · split
    · split
      · exact Nat.le_succ _
      · exact Nat.le_succ _
    · dsimp only
      split
      · rw [List.length_drop, List.length_append]; simp
      · rw [List.length_append]; exact Nat.le_refl _
attribute [local go_sem high] eqFault
set_option maxHeartbeats 4000000 in
set_option maxRecDepth 100000 in
theorem Merge_a (k : Nat) (a0 a1 a2 : Int) (aA : Option Addr) (aa : Nat) (a3 : List (S55)) (aB : Option Addr) (ab : Nat) (a4 : List (S75)) (base : Int) (qA : Option Addr) (qa : Nat) (ql : List (S43)) (w : World) (ha3 : Kd.C k55 w aA a3.length a3) (ea3 : a3.length ≤ aa) (ha4 : Kd.C k75 w aB a4.length a4) (ea4 : a4.length ≤ ab) (hql : Kd.C k43 w qA ql.length ql) (eql : ql.length ≤ qa) (x y : Int) (ht : mailbox_Validate.f k a0 a1 a2 a3 a4 = some (x, y)) (hx : (x == 0 && (y == 0)) = false) :
    Calls Tryd.prog 7 #[.agg #[.int .i64 a0, .int .i64 a1, .int .i64 a2, .slice aA a3.length aa, .slice aB a4.length ab], .int .i64 base, .slice qA ql.length qa] w fun e w' => ∃ v3 v4 vs, e = .returned (.tuple #[.agg #[.int .i64 0, .int .i64 0, .int .i64 0, v3, v4], vs, .agg #[.int .i64 x, .int .i64 y]]) ∧ Kd.V k55 55 w' 0 (fun k_ => w.heap.size ≤ k_) v3 ([]) ∧ Kd.V k75 75 w' 0 (fun k_ => w.heap.size ≤ k_) v4 ([]) ∧ Kd.V k68 68 w' 0 (fun k_ => w.heap.size ≤ k_) vs ([]) ∧ Below w.heap.size w w' := by
  have HA3 := Aside0.mk ha3
  have HA4 := Aside0.mk ha4
  have HQL := Aside0.mk hql
  have HT := Aside0.mk ht
  clear ha3 ha4 hql ht
  have hus := Tryd.underlying25
  have huf := Tryd.underlying29
  have huq := Tryd.underlying43
  have huc := Tryd.underlying70
  have hmm := @run_makeMap Tryd.prog
  have HB := Aside0.mk (below_alloc (below_alloc (below_alloc (Below.refl w.heap.size w) (.cells #[.int .i64 a0, .int .i64 a1, .int .i64 a2, .slice aA a3.length aa, .slice aB a4.length ab] 25)) (.cells #[.int .i64 0, .int .i64 0, .int .i64 0, .slice none 0 0, .slice none 0 0] 25)) (.cells #[.int .i64 0, .int .i64 0] 29))
  have HA := Aside0.mk (blk_later (blk_later (blk_at (w := w) (.cells #[.int .i64 a0, .int .i64 a1, .int .i64 a2, .slice aA a3.length aa, .slice aB a4.length ab] 25)) (.cells #[.int .i64 0, .int .i64 0, .int .i64 0, .slice none 0 0, .slice none 0 0] 25)) (.cells #[.int .i64 0, .int .i64 0] 29))
  have HR := Aside0.mk (blk_later (blk_at1 (w := w) (.cells #[.int .i64 a0, .int .i64 a1, .int .i64 a2, .slice aA a3.length aa, .slice aB a4.length ab] 25) (.cells #[.int .i64 0, .int .i64 0, .int .i64 0, .slice none 0 0, .slice none 0 0] 25)) (.cells #[.int .i64 0, .int .i64 0] 29))
  have HS := Aside0.mk (blk_at2 (w := w) (.cells #[.int .i64 a0, .int .i64 a1, .int .i64 a2, .slice aA a3.length aa, .slice aB a4.length ab] 25) (.cells #[.int .i64 0, .int .i64 0, .int .i64 0, .slice none 0 0, .slice none 0 0] 25) (.cells #[.int .i64 0, .int .i64 0] 29))
  go_enter Tryd.func7, Tryd.ntmps7
  go_wp2_with fail
  refine (mailbox_Validate.calls k a0 a1 a2 aA aa a3 aB ab a4 x y _ (Kd.C_below HA3.out HB.out) ea3 (Kd.C_below HA4.out HB.out) ea4 HT.out).mono ?_
  rintro e w1 ⟨rfl, hb⟩
  replace HA := Aside0.mk (blk_call HA.out hb)
  replace HR := Aside0.mk (blk_call HR.out hb)
  replace HS := Aside0.mk (blk_call HS.out hb)
  replace HB := Aside0.mk (below_step HB.out hb)
  clear hb
  have kHA := bc0 HA.out
  have mHA := bc1 HA.out
  have nHA := bc2 HA.out
  have fHA := bf0 HA.out
  have yHA := blk_lt HA.out
  go_wp2_with fail
  clear kHA mHA nHA fHA yHA
  have l1_t1 := blk_lt HA.out
  have l2_t1 := blk_lt HR.out
  have l3_t1 := blk_lt HS.out
  replace HA := Aside0.mk (blk_later HA.out (.cells #[.int .i64 x, .int .i64 y] 29))
  replace HR := Aside0.mk (blk_later HR.out (.cells #[.int .i64 x, .int .i64 y] 29))
  replace HS := Aside0.mk (blk_later HS.out (.cells #[.int .i64 x, .int .i64 y] 29))
  replace HB := Aside0.mk (below_alloc HB.out (.cells #[.int .i64 x, .int .i64 y] 29))
  have HF := Aside0.mk (blk_at (w := w1) (.cells #[.int .i64 x, .int .i64 y] 29))
  have hs1 : (w1.alloc (.cells #[.int .i64 x, .int .i64 y] 29)).heap.size = w1.heap.size + 1 := by simp
  generalize w1.alloc (.cells #[.int .i64 x, .int .i64 y] 29) = X2 at *
  generalize w1.heap.size = t1_ at *
  refine region_till 4 (fun _ => True) (fun w' : World => w'.cell? ⟨t1_, 0, none⟩ = some (.int .i64 x) ∧ w'.cell? ⟨t1_, 1, none⟩ = some (.int .i64 y)) (by kernel_rfl) ⟨trivial, ⟨bc0 (blk_drew HF.out) 0, bc0 (blk_drew HF.out) 1⟩⟩ (fun hTU => ?_)
  replace HA := Aside0.mk (blk_drew HA.out)
  replace HR := Aside0.mk (blk_drew HR.out)
  replace HS := Aside0.mk (blk_drew HS.out)
  replace HF := Aside0.mk (blk_drew HF.out)
  replace HB := Aside0.mk (below_drew1 HB.out)
  generalize X2.drew = V0 at *
  refine till_freeD (i := 0) (v := ?_) (some 44) rfl rfl (by decide) (by kernel_rfl) (by kernel_rfl) (by kernel_rfl) (fun _ _ _ h => h) (Or.inl ⟨by rfl, ?_⟩) ⟨hTU.1, fun _ => hTU.2⟩ ?_
  rotate_left
  · (intro w_ _; go_simp; try with_reducible rfl)
  try simp only [Act.put, List.setIfInBounds_toArray, List.set_cons_zero, List.set_cons_succ]
  refine till_takeD (i := 1) (v := ?_) (some 45) rfl rfl (by kernel_rfl) (by kernel_rfl) (by kernel_rfl) (by kernel_rfl) (fun _ _ _ h => h) (Or.inl ⟨by rfl, ?_⟩) (by assumption) ?_
  rotate_left
  · (intro w_ hS_; (try dsimp only at hS_); go_simp; try with_reducible rfl)
  try simp only [Act.put, List.setIfInBounds_toArray, List.set_cons_zero, List.set_cons_succ]
  refine till_one (i := 2) (by kernel_rfl) rfl (fun K hK => ?_)
  have kHR := bc0 HR.out
  have fHR := bf0 HR.out
  have yHR := blk_lt HR.out
  go_simp
  clear kHR fHR yHR
  replace HA := Aside0.mk (blk_far (p := ⟨w.heap.size + 1, 4, none⟩) (blk_far (p := ⟨w.heap.size + 1, 3, none⟩) (blk_far (p := ⟨w.heap.size + 1, 2, none⟩) (blk_far (p := ⟨w.heap.size + 1, 1, none⟩) (blk_far (p := ⟨w.heap.size + 1, 0, none⟩) HA.out (show w.heap.size ≠ w.heap.size + 1 by omega) (.int .i64 0)) (show w.heap.size ≠ w.heap.size + 1 by omega) (.int .i64 0)) (show w.heap.size ≠ w.heap.size + 1 by omega) (.int .i64 0)) (show w.heap.size ≠ w.heap.size + 1 by omega) (.slice none 0 0)) (show w.heap.size ≠ w.heap.size + 1 by omega) (.slice none 0 0))
  replace HR : Aside0 (((((((V0).setCell ⟨w.heap.size + 1, 0, none⟩ (.int .i64 0)).setCell ⟨w.heap.size + 1, 1, none⟩ (.int .i64 0)).setCell ⟨w.heap.size + 1, 2, none⟩ (.int .i64 0)).setCell ⟨w.heap.size + 1, 3, none⟩ (.slice none 0 0)).setCell ⟨w.heap.size + 1, 4, none⟩ (.slice none 0 0)).heap[w.heap.size + 1]? = some (.cells #[(.int .i64 0), (.int .i64 0), (.int .i64 0), (.slice none 0 0), (.slice none 0 0)] 25 (0, 0))) := Aside0.mk (blk_put (blk_put (blk_put (blk_put (blk_put HR.out 0 (.int .i64 0) rfl) 1 (.int .i64 0) rfl) 2 (.int .i64 0) rfl) 3 (.slice none 0 0) rfl) 4 (.slice none 0 0) rfl)
  replace HS := Aside0.mk (blk_far (p := ⟨w.heap.size + 1, 4, none⟩) (blk_far (p := ⟨w.heap.size + 1, 3, none⟩) (blk_far (p := ⟨w.heap.size + 1, 2, none⟩) (blk_far (p := ⟨w.heap.size + 1, 1, none⟩) (blk_far (p := ⟨w.heap.size + 1, 0, none⟩) HS.out (show w.heap.size + 1 + 1 ≠ w.heap.size + 1 by omega) (.int .i64 0)) (show w.heap.size + 1 + 1 ≠ w.heap.size + 1 by omega) (.int .i64 0)) (show w.heap.size + 1 + 1 ≠ w.heap.size + 1 by omega) (.int .i64 0)) (show w.heap.size + 1 + 1 ≠ w.heap.size + 1 by omega) (.slice none 0 0)) (show w.heap.size + 1 + 1 ≠ w.heap.size + 1 by omega) (.slice none 0 0))
  replace HF := Aside0.mk (blk_far (p := ⟨w.heap.size + 1, 4, none⟩) (blk_far (p := ⟨w.heap.size + 1, 3, none⟩) (blk_far (p := ⟨w.heap.size + 1, 2, none⟩) (blk_far (p := ⟨w.heap.size + 1, 1, none⟩) (blk_far (p := ⟨w.heap.size + 1, 0, none⟩) HF.out (show t1_ ≠ w.heap.size + 1 by omega) (.int .i64 0)) (show t1_ ≠ w.heap.size + 1 by omega) (.int .i64 0)) (show t1_ ≠ w.heap.size + 1 by omega) (.int .i64 0)) (show t1_ ≠ w.heap.size + 1 by omega) (.slice none 0 0)) (show t1_ ≠ w.heap.size + 1 by omega) (.slice none 0 0))
  replace HB := Aside0.mk (below_set (j := 4) (v := (.slice none 0 0)) (below_set (j := 3) (v := (.slice none 0 0)) (below_set (j := 2) (v := (.int .i64 0)) (below_set (j := 1) (v := (.int .i64 0)) (below_set (j := 0) (v := (.int .i64 0)) HB.out (show w.heap.size ≤ w.heap.size + 1 by omega)) (show w.heap.size ≤ w.heap.size + 1 by omega)) (show w.heap.size ≤ w.heap.size + 1 by omega)) (show w.heap.size ≤ w.heap.size + 1 by omega)) (show w.heap.size ≤ w.heap.size + 1 by omega))
  generalize (((((V0).setCell ⟨w.heap.size + 1, 0, none⟩ (.int .i64 0)).setCell ⟨w.heap.size + 1, 1, none⟩ (.int .i64 0)).setCell ⟨w.heap.size + 1, 2, none⟩ (.int .i64 0)).setCell ⟨w.heap.size + 1, 3, none⟩ (.slice none 0 0)).setCell ⟨w.heap.size + 1, 4, none⟩ (.slice none 0 0) = V1 at *
  refine hK.out _ _ trivial (fun _ _ => ⟨bc0 HF.out 0, bc0 HF.out 1⟩) (fun hTV => ?_)
  clear hK K hTU
  have hTU := hTV (by kernel_rfl) (by decide)
  clear hTV
  try simp only [Act.put, List.setIfInBounds_toArray, List.set_cons_zero, List.set_cons_succ]
  refine till_freeD (i := 3) (v := ?_) (some 7) rfl rfl (by decide) (by kernel_rfl) (by kernel_rfl) (by kernel_rfl) (fun _ _ _ h => h) (Or.inl ⟨by rfl, ?_⟩) ⟨hTU.1, fun _ => hTU.2⟩ ?_
  rotate_left
  · (intro w_ _; go_simp; try with_reducible rfl)
  try simp only [Act.put, List.setIfInBounds_toArray, List.set_cons_zero, List.set_cons_succ]
  refine till_one (i := 4) (by kernel_rfl) rfl (fun K hK => ?_)
  have kHS := bc0 HS.out
  have fHS := bf0 HS.out
  have yHS := blk_lt HS.out
  go_simp
  clear kHS fHS yHS
  replace HA := Aside0.mk (blk_far (p := ⟨w.heap.size + 1 + 1, 1, none⟩) (blk_far (p := ⟨w.heap.size + 1 + 1, 0, none⟩) HA.out (show w.heap.size ≠ w.heap.size + 1 + 1 by omega) (.int .i64 x)) (show w.heap.size ≠ w.heap.size + 1 + 1 by omega) (.int .i64 y))
  replace HR := Aside0.mk (blk_far (p := ⟨w.heap.size + 1 + 1, 1, none⟩) (blk_far (p := ⟨w.heap.size + 1 + 1, 0, none⟩) HR.out (show w.heap.size + 1 ≠ w.heap.size + 1 + 1 by omega) (.int .i64 x)) (show w.heap.size + 1 ≠ w.heap.size + 1 + 1 by omega) (.int .i64 y))
  replace HS : Aside0 ((((V1).setCell ⟨w.heap.size + 1 + 1, 0, none⟩ (.int .i64 x)).setCell ⟨w.heap.size + 1 + 1, 1, none⟩ (.int .i64 y)).heap[w.heap.size + 1 + 1]? = some (.cells #[(.int .i64 x), (.int .i64 y)] 29 (0, 0))) := Aside0.mk (blk_put (blk_put HS.out 0 (.int .i64 x) rfl) 1 (.int .i64 y) rfl)
  replace HF := Aside0.mk (blk_far (p := ⟨w.heap.size + 1 + 1, 1, none⟩) (blk_far (p := ⟨w.heap.size + 1 + 1, 0, none⟩) HF.out (show t1_ ≠ w.heap.size + 1 + 1 by omega) (.int .i64 x)) (show t1_ ≠ w.heap.size + 1 + 1 by omega) (.int .i64 y))
  replace HB := Aside0.mk (below_set (j := 1) (v := (.int .i64 y)) (below_set (j := 0) (v := (.int .i64 x)) HB.out (show w.heap.size ≤ w.heap.size + 1 + 1 by omega)) (show w.heap.size ≤ w.heap.size + 1 + 1 by omega))
  generalize ((V1).setCell ⟨w.heap.size + 1 + 1, 0, none⟩ (.int .i64 x)).setCell ⟨w.heap.size + 1 + 1, 1, none⟩ (.int .i64 y) = V2 at *
  refine hK.out _ _ trivial (fun _ h => absurd rfl h) (fun _ => ?_)
  clear hK K hTU
  refine till_done (by kernel_rfl) ?_ _
  go_wp2
  have kHR := bc0 HR.out
  have kHS := bc0 HS.out
  exact bodyPost_ret (v := .tuple #[.agg #[.int .i64 0, .int .i64 0, .int .i64 0, .slice none 0 0, .slice none 0 0], .slice none 0 0, .agg #[.int .i64 x, .int .i64 y]]) (by simp [results, Tryd.results7, go_sem, kHR, kHS]) rfl ⟨_, _, _, rfl, Kd.N_V (Kd.N_nil _ _ V2 0 _), Kd.N_V (Kd.N_nil _ _ V2 0 _), Kd.N_V (Kd.N_nil _ _ V2 0 _), HB.out⟩
set_option maxHeartbeats 4000000 in
set_option maxRecDepth 100000 in
theorem Merge_b (k : Nat) (a0 a1 a2 : Int) (aA : Option Addr) (aa : Nat) (a3 : List (S55)) (aB : Option Addr) (ab : Nat) (a4 : List (S75)) (base : Int) (qA : Option Addr) (qa : Nat) (ql : List (S43)) (w : World) (ha3 : Kd.C k55 w aA a3.length a3) (ea3 : a3.length ≤ aa) (ha4 : Kd.C k75 w aB a4.length a4) (ea4 : a4.length ≤ ab) (hql : Kd.C k43 w qA ql.length ql) (eql : ql.length ≤ qa) (ht : mailbox_Validate.f k a0 a1 a2 a3 a4 = some (0, 0)) (hbad : base < 1 ∨ a1 < base) :
    Calls Tryd.prog 7 #[.agg #[.int .i64 a0, .int .i64 a1, .int .i64 a2, .slice aA a3.length aa, .slice aB a4.length ab], .int .i64 base, .slice qA ql.length qa] w fun e w' => ∃ v3 v4 vs, e = .returned (.tuple #[.agg #[.int .i64 0, .int .i64 0, .int .i64 0, v3, v4], vs, .agg #[.int .i64 3, .int .i64 (-4)]]) ∧ Kd.V k55 55 w' 0 (fun k_ => w.heap.size ≤ k_) v3 ([]) ∧ Kd.V k75 75 w' 0 (fun k_ => w.heap.size ≤ k_) v4 ([]) ∧ Kd.V k68 68 w' 0 (fun k_ => w.heap.size ≤ k_) vs ([]) ∧ Below w.heap.size w w' := by
  by_cases c1 : base < 1
  · skip
    have d1 : decide (base < 1) = true := decide_eq_true c1
    clear hbad c1
    have HA3 := Aside0.mk ha3
    have HA4 := Aside0.mk ha4
    have HQL := Aside0.mk hql
    have HT := Aside0.mk ht
    clear ha3 ha4 hql ht
    have hus := Tryd.underlying25
    have huf := Tryd.underlying29
    have huq := Tryd.underlying43
    have huc := Tryd.underlying70
    have hmm := @run_makeMap Tryd.prog
    have HB := Aside0.mk (below_alloc (below_alloc (below_alloc (Below.refl w.heap.size w) (.cells #[.int .i64 a0, .int .i64 a1, .int .i64 a2, .slice aA a3.length aa, .slice aB a4.length ab] 25)) (.cells #[.int .i64 0, .int .i64 0, .int .i64 0, .slice none 0 0, .slice none 0 0] 25)) (.cells #[.int .i64 0, .int .i64 0] 29))
    have HA := Aside0.mk (blk_later (blk_later (blk_at (w := w) (.cells #[.int .i64 a0, .int .i64 a1, .int .i64 a2, .slice aA a3.length aa, .slice aB a4.length ab] 25)) (.cells #[.int .i64 0, .int .i64 0, .int .i64 0, .slice none 0 0, .slice none 0 0] 25)) (.cells #[.int .i64 0, .int .i64 0] 29))
    have HR := Aside0.mk (blk_later (blk_at1 (w := w) (.cells #[.int .i64 a0, .int .i64 a1, .int .i64 a2, .slice aA a3.length aa, .slice aB a4.length ab] 25) (.cells #[.int .i64 0, .int .i64 0, .int .i64 0, .slice none 0 0, .slice none 0 0] 25)) (.cells #[.int .i64 0, .int .i64 0] 29))
    have HS := Aside0.mk (blk_at2 (w := w) (.cells #[.int .i64 a0, .int .i64 a1, .int .i64 a2, .slice aA a3.length aa, .slice aB a4.length ab] 25) (.cells #[.int .i64 0, .int .i64 0, .int .i64 0, .slice none 0 0, .slice none 0 0] 25) (.cells #[.int .i64 0, .int .i64 0] 29))
    go_enter Tryd.func7, Tryd.ntmps7
    go_wp2_with fail
    refine (mailbox_Validate.calls k a0 a1 a2 aA aa a3 aB ab a4 0 0 _ (Kd.C_below HA3.out HB.out) ea3 (Kd.C_below HA4.out HB.out) ea4 HT.out).mono ?_
    rintro e w1 ⟨rfl, hb⟩
    replace HA := Aside0.mk (blk_call HA.out hb)
    replace HR := Aside0.mk (blk_call HR.out hb)
    replace HS := Aside0.mk (blk_call HS.out hb)
    replace HB := Aside0.mk (below_step HB.out hb)
    clear hb
    have kHA := bc0 HA.out
    have mHA := bc1 HA.out
    have nHA := bc2 HA.out
    have fHA := bf0 HA.out
    have yHA := blk_lt HA.out
    go_wp2_with fail
    clear kHA mHA nHA fHA yHA
    have l1_t1 := blk_lt HA.out
    have l2_t1 := blk_lt HR.out
    have l3_t1 := blk_lt HS.out
    replace HA := Aside0.mk (blk_later HA.out (.cells #[.int .i64 3, .int .i64 (-4)] 29))
    replace HR := Aside0.mk (blk_later HR.out (.cells #[.int .i64 3, .int .i64 (-4)] 29))
    replace HS := Aside0.mk (blk_later HS.out (.cells #[.int .i64 3, .int .i64 (-4)] 29))
    replace HB := Aside0.mk (below_alloc HB.out (.cells #[.int .i64 3, .int .i64 (-4)] 29))
    have HF := Aside0.mk (blk_at (w := w1) (.cells #[.int .i64 3, .int .i64 (-4)] 29))
    have hs1 : (w1.alloc (.cells #[.int .i64 3, .int .i64 (-4)] 29)).heap.size = w1.heap.size + 1 := by simp
    generalize w1.alloc (.cells #[.int .i64 3, .int .i64 (-4)] 29) = X2 at *
    generalize w1.heap.size = t1_ at *
    refine region_till 4 (fun _ => True) (fun w' : World => w'.cell? ⟨t1_, 0, none⟩ = some (.int .i64 3) ∧ w'.cell? ⟨t1_, 1, none⟩ = some (.int .i64 (-4))) (by kernel_rfl) ⟨trivial, ⟨bc0 (blk_drew HF.out) 0, bc0 (blk_drew HF.out) 1⟩⟩ (fun hTU => ?_)
    replace HA := Aside0.mk (blk_drew HA.out)
    replace HR := Aside0.mk (blk_drew HR.out)
    replace HS := Aside0.mk (blk_drew HS.out)
    replace HF := Aside0.mk (blk_drew HF.out)
    replace HB := Aside0.mk (below_drew1 HB.out)
    generalize X2.drew = V0 at *
    refine till_freeD (i := 0) (v := ?_) (some 44) rfl rfl (by decide) (by kernel_rfl) (by kernel_rfl) (by kernel_rfl) (fun _ _ _ h => h) (Or.inl ⟨by rfl, ?_⟩) ⟨hTU.1, fun _ => hTU.2⟩ ?_
    rotate_left
    · (intro w_ _; go_simp; try with_reducible rfl)
    try simp only [Act.put, List.setIfInBounds_toArray, List.set_cons_zero, List.set_cons_succ]
    refine till_takeD (i := 1) (v := ?_) (some 45) rfl rfl (by kernel_rfl) (by kernel_rfl) (by kernel_rfl) (by kernel_rfl) (fun _ _ _ h => h) (Or.inl ⟨by rfl, ?_⟩) (by assumption) ?_
    rotate_left
    · (intro w_ hS_; (try dsimp only at hS_); go_simp; try with_reducible rfl)
    try simp only [Act.put, List.setIfInBounds_toArray, List.set_cons_zero, List.set_cons_succ]
    refine till_one (i := 2) (by kernel_rfl) rfl (fun K hK => ?_)
    have kHR := bc0 HR.out
    have fHR := bf0 HR.out
    have yHR := blk_lt HR.out
    go_simp
    clear kHR fHR yHR
    replace HA := Aside0.mk (blk_far (p := ⟨w.heap.size + 1, 4, none⟩) (blk_far (p := ⟨w.heap.size + 1, 3, none⟩) (blk_far (p := ⟨w.heap.size + 1, 2, none⟩) (blk_far (p := ⟨w.heap.size + 1, 1, none⟩) (blk_far (p := ⟨w.heap.size + 1, 0, none⟩) HA.out (show w.heap.size ≠ w.heap.size + 1 by omega) (.int .i64 0)) (show w.heap.size ≠ w.heap.size + 1 by omega) (.int .i64 0)) (show w.heap.size ≠ w.heap.size + 1 by omega) (.int .i64 0)) (show w.heap.size ≠ w.heap.size + 1 by omega) (.slice none 0 0)) (show w.heap.size ≠ w.heap.size + 1 by omega) (.slice none 0 0))
    replace HR : Aside0 (((((((V0).setCell ⟨w.heap.size + 1, 0, none⟩ (.int .i64 0)).setCell ⟨w.heap.size + 1, 1, none⟩ (.int .i64 0)).setCell ⟨w.heap.size + 1, 2, none⟩ (.int .i64 0)).setCell ⟨w.heap.size + 1, 3, none⟩ (.slice none 0 0)).setCell ⟨w.heap.size + 1, 4, none⟩ (.slice none 0 0)).heap[w.heap.size + 1]? = some (.cells #[(.int .i64 0), (.int .i64 0), (.int .i64 0), (.slice none 0 0), (.slice none 0 0)] 25 (0, 0))) := Aside0.mk (blk_put (blk_put (blk_put (blk_put (blk_put HR.out 0 (.int .i64 0) rfl) 1 (.int .i64 0) rfl) 2 (.int .i64 0) rfl) 3 (.slice none 0 0) rfl) 4 (.slice none 0 0) rfl)
    replace HS := Aside0.mk (blk_far (p := ⟨w.heap.size + 1, 4, none⟩) (blk_far (p := ⟨w.heap.size + 1, 3, none⟩) (blk_far (p := ⟨w.heap.size + 1, 2, none⟩) (blk_far (p := ⟨w.heap.size + 1, 1, none⟩) (blk_far (p := ⟨w.heap.size + 1, 0, none⟩) HS.out (show w.heap.size + 1 + 1 ≠ w.heap.size + 1 by omega) (.int .i64 0)) (show w.heap.size + 1 + 1 ≠ w.heap.size + 1 by omega) (.int .i64 0)) (show w.heap.size + 1 + 1 ≠ w.heap.size + 1 by omega) (.int .i64 0)) (show w.heap.size + 1 + 1 ≠ w.heap.size + 1 by omega) (.slice none 0 0)) (show w.heap.size + 1 + 1 ≠ w.heap.size + 1 by omega) (.slice none 0 0))
    replace HF := Aside0.mk (blk_far (p := ⟨w.heap.size + 1, 4, none⟩) (blk_far (p := ⟨w.heap.size + 1, 3, none⟩) (blk_far (p := ⟨w.heap.size + 1, 2, none⟩) (blk_far (p := ⟨w.heap.size + 1, 1, none⟩) (blk_far (p := ⟨w.heap.size + 1, 0, none⟩) HF.out (show t1_ ≠ w.heap.size + 1 by omega) (.int .i64 0)) (show t1_ ≠ w.heap.size + 1 by omega) (.int .i64 0)) (show t1_ ≠ w.heap.size + 1 by omega) (.int .i64 0)) (show t1_ ≠ w.heap.size + 1 by omega) (.slice none 0 0)) (show t1_ ≠ w.heap.size + 1 by omega) (.slice none 0 0))
    replace HB := Aside0.mk (below_set (j := 4) (v := (.slice none 0 0)) (below_set (j := 3) (v := (.slice none 0 0)) (below_set (j := 2) (v := (.int .i64 0)) (below_set (j := 1) (v := (.int .i64 0)) (below_set (j := 0) (v := (.int .i64 0)) HB.out (show w.heap.size ≤ w.heap.size + 1 by omega)) (show w.heap.size ≤ w.heap.size + 1 by omega)) (show w.heap.size ≤ w.heap.size + 1 by omega)) (show w.heap.size ≤ w.heap.size + 1 by omega)) (show w.heap.size ≤ w.heap.size + 1 by omega))
    generalize (((((V0).setCell ⟨w.heap.size + 1, 0, none⟩ (.int .i64 0)).setCell ⟨w.heap.size + 1, 1, none⟩ (.int .i64 0)).setCell ⟨w.heap.size + 1, 2, none⟩ (.int .i64 0)).setCell ⟨w.heap.size + 1, 3, none⟩ (.slice none 0 0)).setCell ⟨w.heap.size + 1, 4, none⟩ (.slice none 0 0) = V1 at *
    refine hK.out _ _ trivial (fun _ _ => ⟨bc0 HF.out 0, bc0 HF.out 1⟩) (fun hTV => ?_)
    clear hK K hTU
    have hTU := hTV (by kernel_rfl) (by decide)
    clear hTV
    try simp only [Act.put, List.setIfInBounds_toArray, List.set_cons_zero, List.set_cons_succ]
    refine till_freeD (i := 3) (v := ?_) (some 7) rfl rfl (by decide) (by kernel_rfl) (by kernel_rfl) (by kernel_rfl) (fun _ _ _ h => h) (Or.inl ⟨by rfl, ?_⟩) ⟨hTU.1, fun _ => hTU.2⟩ ?_
    rotate_left
    · (intro w_ _; go_simp; try with_reducible rfl)
    try simp only [Act.put, List.setIfInBounds_toArray, List.set_cons_zero, List.set_cons_succ]
    refine till_one (i := 4) (by kernel_rfl) rfl (fun K hK => ?_)
    have kHS := bc0 HS.out
    have fHS := bf0 HS.out
    have yHS := blk_lt HS.out
    go_simp
    clear kHS fHS yHS
    replace HA := Aside0.mk (blk_far (p := ⟨w.heap.size + 1 + 1, 1, none⟩) (blk_far (p := ⟨w.heap.size + 1 + 1, 0, none⟩) HA.out (show w.heap.size ≠ w.heap.size + 1 + 1 by omega) (.int .i64 3)) (show w.heap.size ≠ w.heap.size + 1 + 1 by omega) (.int .i64 (-4)))
    replace HR := Aside0.mk (blk_far (p := ⟨w.heap.size + 1 + 1, 1, none⟩) (blk_far (p := ⟨w.heap.size + 1 + 1, 0, none⟩) HR.out (show w.heap.size + 1 ≠ w.heap.size + 1 + 1 by omega) (.int .i64 3)) (show w.heap.size + 1 ≠ w.heap.size + 1 + 1 by omega) (.int .i64 (-4)))
    replace HS : Aside0 ((((V1).setCell ⟨w.heap.size + 1 + 1, 0, none⟩ (.int .i64 3)).setCell ⟨w.heap.size + 1 + 1, 1, none⟩ (.int .i64 (-4))).heap[w.heap.size + 1 + 1]? = some (.cells #[(.int .i64 3), (.int .i64 (-4))] 29 (0, 0))) := Aside0.mk (blk_put (blk_put HS.out 0 (.int .i64 3) rfl) 1 (.int .i64 (-4)) rfl)
    replace HF := Aside0.mk (blk_far (p := ⟨w.heap.size + 1 + 1, 1, none⟩) (blk_far (p := ⟨w.heap.size + 1 + 1, 0, none⟩) HF.out (show t1_ ≠ w.heap.size + 1 + 1 by omega) (.int .i64 3)) (show t1_ ≠ w.heap.size + 1 + 1 by omega) (.int .i64 (-4)))
    replace HB := Aside0.mk (below_set (j := 1) (v := (.int .i64 (-4))) (below_set (j := 0) (v := (.int .i64 3)) HB.out (show w.heap.size ≤ w.heap.size + 1 + 1 by omega)) (show w.heap.size ≤ w.heap.size + 1 + 1 by omega))
    generalize ((V1).setCell ⟨w.heap.size + 1 + 1, 0, none⟩ (.int .i64 3)).setCell ⟨w.heap.size + 1 + 1, 1, none⟩ (.int .i64 (-4)) = V2 at *
    refine hK.out _ _ trivial (fun _ h => absurd rfl h) (fun _ => ?_)
    clear hK K hTU
    refine till_done (by kernel_rfl) ?_ _
    go_wp2
    have kHR := bc0 HR.out
    have kHS := bc0 HS.out
    exact bodyPost_ret (v := .tuple #[.agg #[.int .i64 0, .int .i64 0, .int .i64 0, .slice none 0 0, .slice none 0 0], .slice none 0 0, .agg #[.int .i64 3, .int .i64 (-4)]]) (by simp [results, Tryd.results7, go_sem, kHR, kHS]) rfl ⟨_, _, _, rfl, Kd.N_V (Kd.N_nil _ _ V2 0 _), Kd.N_V (Kd.N_nil _ _ V2 0 _), Kd.N_V (Kd.N_nil _ _ V2 0 _), HB.out⟩
  · skip
    have d1 : decide (base < 1) = false := decide_eq_false c1
    have d2 : decide (a1 < base) = true := decide_eq_true (hbad.resolve_left c1)
    clear hbad c1
    have HA3 := Aside0.mk ha3
    have HA4 := Aside0.mk ha4
    have HQL := Aside0.mk hql
    have HT := Aside0.mk ht
    clear ha3 ha4 hql ht
    have hus := Tryd.underlying25
    have huf := Tryd.underlying29
    have huq := Tryd.underlying43
    have huc := Tryd.underlying70
    have hmm := @run_makeMap Tryd.prog
    have HB := Aside0.mk (below_alloc (below_alloc (below_alloc (Below.refl w.heap.size w) (.cells #[.int .i64 a0, .int .i64 a1, .int .i64 a2, .slice aA a3.length aa, .slice aB a4.length ab] 25)) (.cells #[.int .i64 0, .int .i64 0, .int .i64 0, .slice none 0 0, .slice none 0 0] 25)) (.cells #[.int .i64 0, .int .i64 0] 29))
    have HA := Aside0.mk (blk_later (blk_later (blk_at (w := w) (.cells #[.int .i64 a0, .int .i64 a1, .int .i64 a2, .slice aA a3.length aa, .slice aB a4.length ab] 25)) (.cells #[.int .i64 0, .int .i64 0, .int .i64 0, .slice none 0 0, .slice none 0 0] 25)) (.cells #[.int .i64 0, .int .i64 0] 29))
    have HR := Aside0.mk (blk_later (blk_at1 (w := w) (.cells #[.int .i64 a0, .int .i64 a1, .int .i64 a2, .slice aA a3.length aa, .slice aB a4.length ab] 25) (.cells #[.int .i64 0, .int .i64 0, .int .i64 0, .slice none 0 0, .slice none 0 0] 25)) (.cells #[.int .i64 0, .int .i64 0] 29))
    have HS := Aside0.mk (blk_at2 (w := w) (.cells #[.int .i64 a0, .int .i64 a1, .int .i64 a2, .slice aA a3.length aa, .slice aB a4.length ab] 25) (.cells #[.int .i64 0, .int .i64 0, .int .i64 0, .slice none 0 0, .slice none 0 0] 25) (.cells #[.int .i64 0, .int .i64 0] 29))
    go_enter Tryd.func7, Tryd.ntmps7
    go_wp2_with fail
    refine (mailbox_Validate.calls k a0 a1 a2 aA aa a3 aB ab a4 0 0 _ (Kd.C_below HA3.out HB.out) ea3 (Kd.C_below HA4.out HB.out) ea4 HT.out).mono ?_
    rintro e w1 ⟨rfl, hb⟩
    replace HA := Aside0.mk (blk_call HA.out hb)
    replace HR := Aside0.mk (blk_call HR.out hb)
    replace HS := Aside0.mk (blk_call HS.out hb)
    replace HB := Aside0.mk (below_step HB.out hb)
    clear hb
    have kHA := bc0 HA.out
    have mHA := bc1 HA.out
    have nHA := bc2 HA.out
    have fHA := bf0 HA.out
    have yHA := blk_lt HA.out
    go_wp2_with fail
    clear kHA mHA nHA fHA yHA
    have l1_t1 := blk_lt HA.out
    have l2_t1 := blk_lt HR.out
    have l3_t1 := blk_lt HS.out
    replace HA := Aside0.mk (blk_later HA.out (.cells #[.int .i64 3, .int .i64 (-4)] 29))
    replace HR := Aside0.mk (blk_later HR.out (.cells #[.int .i64 3, .int .i64 (-4)] 29))
    replace HS := Aside0.mk (blk_later HS.out (.cells #[.int .i64 3, .int .i64 (-4)] 29))
    replace HB := Aside0.mk (below_alloc HB.out (.cells #[.int .i64 3, .int .i64 (-4)] 29))
    have HF := Aside0.mk (blk_at (w := w1) (.cells #[.int .i64 3, .int .i64 (-4)] 29))
    have hs1 : (w1.alloc (.cells #[.int .i64 3, .int .i64 (-4)] 29)).heap.size = w1.heap.size + 1 := by simp
    generalize w1.alloc (.cells #[.int .i64 3, .int .i64 (-4)] 29) = X2 at *
    generalize w1.heap.size = t1_ at *
    refine region_till 4 (fun _ => True) (fun w' : World => w'.cell? ⟨t1_, 0, none⟩ = some (.int .i64 3) ∧ w'.cell? ⟨t1_, 1, none⟩ = some (.int .i64 (-4))) (by kernel_rfl) ⟨trivial, ⟨bc0 (blk_drew HF.out) 0, bc0 (blk_drew HF.out) 1⟩⟩ (fun hTU => ?_)
    replace HA := Aside0.mk (blk_drew HA.out)
    replace HR := Aside0.mk (blk_drew HR.out)
    replace HS := Aside0.mk (blk_drew HS.out)
    replace HF := Aside0.mk (blk_drew HF.out)
    replace HB := Aside0.mk (below_drew1 HB.out)
    generalize X2.drew = V0 at *
    refine till_freeD (i := 0) (v := ?_) (some 44) rfl rfl (by decide) (by kernel_rfl) (by kernel_rfl) (by kernel_rfl) (fun _ _ _ h => h) (Or.inl ⟨by rfl, ?_⟩) ⟨hTU.1, fun _ => hTU.2⟩ ?_
    rotate_left
    · (intro w_ _; go_simp; try with_reducible rfl)
    try simp only [Act.put, List.setIfInBounds_toArray, List.set_cons_zero, List.set_cons_succ]
    refine till_takeD (i := 1) (v := ?_) (some 45) rfl rfl (by kernel_rfl) (by kernel_rfl) (by kernel_rfl) (by kernel_rfl) (fun _ _ _ h => h) (Or.inl ⟨by rfl, ?_⟩) (by assumption) ?_
    rotate_left
    · (intro w_ hS_; (try dsimp only at hS_); go_simp; try with_reducible rfl)
    try simp only [Act.put, List.setIfInBounds_toArray, List.set_cons_zero, List.set_cons_succ]
    refine till_one (i := 2) (by kernel_rfl) rfl (fun K hK => ?_)
    have kHR := bc0 HR.out
    have fHR := bf0 HR.out
    have yHR := blk_lt HR.out
    go_simp
    clear kHR fHR yHR
    replace HA := Aside0.mk (blk_far (p := ⟨w.heap.size + 1, 4, none⟩) (blk_far (p := ⟨w.heap.size + 1, 3, none⟩) (blk_far (p := ⟨w.heap.size + 1, 2, none⟩) (blk_far (p := ⟨w.heap.size + 1, 1, none⟩) (blk_far (p := ⟨w.heap.size + 1, 0, none⟩) HA.out (show w.heap.size ≠ w.heap.size + 1 by omega) (.int .i64 0)) (show w.heap.size ≠ w.heap.size + 1 by omega) (.int .i64 0)) (show w.heap.size ≠ w.heap.size + 1 by omega) (.int .i64 0)) (show w.heap.size ≠ w.heap.size + 1 by omega) (.slice none 0 0)) (show w.heap.size ≠ w.heap.size + 1 by omega) (.slice none 0 0))
    replace HR : Aside0 (((((((V0).setCell ⟨w.heap.size + 1, 0, none⟩ (.int .i64 0)).setCell ⟨w.heap.size + 1, 1, none⟩ (.int .i64 0)).setCell ⟨w.heap.size + 1, 2, none⟩ (.int .i64 0)).setCell ⟨w.heap.size + 1, 3, none⟩ (.slice none 0 0)).setCell ⟨w.heap.size + 1, 4, none⟩ (.slice none 0 0)).heap[w.heap.size + 1]? = some (.cells #[(.int .i64 0), (.int .i64 0), (.int .i64 0), (.slice none 0 0), (.slice none 0 0)] 25 (0, 0))) := Aside0.mk (blk_put (blk_put (blk_put (blk_put (blk_put HR.out 0 (.int .i64 0) rfl) 1 (.int .i64 0) rfl) 2 (.int .i64 0) rfl) 3 (.slice none 0 0) rfl) 4 (.slice none 0 0) rfl)
    replace HS := Aside0.mk (blk_far (p := ⟨w.heap.size + 1, 4, none⟩) (blk_far (p := ⟨w.heap.size + 1, 3, none⟩) (blk_far (p := ⟨w.heap.size + 1, 2, none⟩) (blk_far (p := ⟨w.heap.size + 1, 1, none⟩) (blk_far (p := ⟨w.heap.size + 1, 0, none⟩) HS.out (show w.heap.size + 1 + 1 ≠ w.heap.size + 1 by omega) (.int .i64 0)) (show w.heap.size + 1 + 1 ≠ w.heap.size + 1 by omega) (.int .i64 0)) (show w.heap.size + 1 + 1 ≠ w.heap.size + 1 by omega) (.int .i64 0)) (show w.heap.size + 1 + 1 ≠ w.heap.size + 1 by omega) (.slice none 0 0)) (show w.heap.size + 1 + 1 ≠ w.heap.size + 1 by omega) (.slice none 0 0))
    replace HF := Aside0.mk (blk_far (p := ⟨w.heap.size + 1, 4, none⟩) (blk_far (p := ⟨w.heap.size + 1, 3, none⟩) (blk_far (p := ⟨w.heap.size + 1, 2, none⟩) (blk_far (p := ⟨w.heap.size + 1, 1, none⟩) (blk_far (p := ⟨w.heap.size + 1, 0, none⟩) HF.out (show t1_ ≠ w.heap.size + 1 by omega) (.int .i64 0)) (show t1_ ≠ w.heap.size + 1 by omega) (.int .i64 0)) (show t1_ ≠ w.heap.size + 1 by omega) (.int .i64 0)) (show t1_ ≠ w.heap.size + 1 by omega) (.slice none 0 0)) (show t1_ ≠ w.heap.size + 1 by omega) (.slice none 0 0))
    replace HB := Aside0.mk (below_set (j := 4) (v := (.slice none 0 0)) (below_set (j := 3) (v := (.slice none 0 0)) (below_set (j := 2) (v := (.int .i64 0)) (below_set (j := 1) (v := (.int .i64 0)) (below_set (j := 0) (v := (.int .i64 0)) HB.out (show w.heap.size ≤ w.heap.size + 1 by omega)) (show w.heap.size ≤ w.heap.size + 1 by omega)) (show w.heap.size ≤ w.heap.size + 1 by omega)) (show w.heap.size ≤ w.heap.size + 1 by omega)) (show w.heap.size ≤ w.heap.size + 1 by omega))
    generalize (((((V0).setCell ⟨w.heap.size + 1, 0, none⟩ (.int .i64 0)).setCell ⟨w.heap.size + 1, 1, none⟩ (.int .i64 0)).setCell ⟨w.heap.size + 1, 2, none⟩ (.int .i64 0)).setCell ⟨w.heap.size + 1, 3, none⟩ (.slice none 0 0)).setCell ⟨w.heap.size + 1, 4, none⟩ (.slice none 0 0) = V1 at *
    refine hK.out _ _ trivial (fun _ _ => ⟨bc0 HF.out 0, bc0 HF.out 1⟩) (fun hTV => ?_)
    clear hK K hTU
    have hTU := hTV (by kernel_rfl) (by decide)
    clear hTV
    try simp only [Act.put, List.setIfInBounds_toArray, List.set_cons_zero, List.set_cons_succ]
    refine till_freeD (i := 3) (v := ?_) (some 7) rfl rfl (by decide) (by kernel_rfl) (by kernel_rfl) (by kernel_rfl) (fun _ _ _ h => h) (Or.inl ⟨by rfl, ?_⟩) ⟨hTU.1, fun _ => hTU.2⟩ ?_
    rotate_left
    · (intro w_ _; go_simp; try with_reducible rfl)
    try simp only [Act.put, List.setIfInBounds_toArray, List.set_cons_zero, List.set_cons_succ]
    refine till_one (i := 4) (by kernel_rfl) rfl (fun K hK => ?_)
    have kHS := bc0 HS.out
    have fHS := bf0 HS.out
    have yHS := blk_lt HS.out
    go_simp
    clear kHS fHS yHS
    replace HA := Aside0.mk (blk_far (p := ⟨w.heap.size + 1 + 1, 1, none⟩) (blk_far (p := ⟨w.heap.size + 1 + 1, 0, none⟩) HA.out (show w.heap.size ≠ w.heap.size + 1 + 1 by omega) (.int .i64 3)) (show w.heap.size ≠ w.heap.size + 1 + 1 by omega) (.int .i64 (-4)))
    replace HR := Aside0.mk (blk_far (p := ⟨w.heap.size + 1 + 1, 1, none⟩) (blk_far (p := ⟨w.heap.size + 1 + 1, 0, none⟩) HR.out (show w.heap.size + 1 ≠ w.heap.size + 1 + 1 by omega) (.int .i64 3)) (show w.heap.size + 1 ≠ w.heap.size + 1 + 1 by omega) (.int .i64 (-4)))
    replace HS : Aside0 ((((V1).setCell ⟨w.heap.size + 1 + 1, 0, none⟩ (.int .i64 3)).setCell ⟨w.heap.size + 1 + 1, 1, none⟩ (.int .i64 (-4))).heap[w.heap.size + 1 + 1]? = some (.cells #[(.int .i64 3), (.int .i64 (-4))] 29 (0, 0))) := Aside0.mk (blk_put (blk_put HS.out 0 (.int .i64 3) rfl) 1 (.int .i64 (-4)) rfl)
    replace HF := Aside0.mk (blk_far (p := ⟨w.heap.size + 1 + 1, 1, none⟩) (blk_far (p := ⟨w.heap.size + 1 + 1, 0, none⟩) HF.out (show t1_ ≠ w.heap.size + 1 + 1 by omega) (.int .i64 3)) (show t1_ ≠ w.heap.size + 1 + 1 by omega) (.int .i64 (-4)))
    replace HB := Aside0.mk (below_set (j := 1) (v := (.int .i64 (-4))) (below_set (j := 0) (v := (.int .i64 3)) HB.out (show w.heap.size ≤ w.heap.size + 1 + 1 by omega)) (show w.heap.size ≤ w.heap.size + 1 + 1 by omega))
    generalize ((V1).setCell ⟨w.heap.size + 1 + 1, 0, none⟩ (.int .i64 3)).setCell ⟨w.heap.size + 1 + 1, 1, none⟩ (.int .i64 (-4)) = V2 at *
    refine hK.out _ _ trivial (fun _ h => absurd rfl h) (fun _ => ?_)
    clear hK K hTU
    refine till_done (by kernel_rfl) ?_ _
    go_wp2
    have kHR := bc0 HR.out
    have kHS := bc0 HS.out
    exact bodyPost_ret (v := .tuple #[.agg #[.int .i64 0, .int .i64 0, .int .i64 0, .slice none 0 0, .slice none 0 0], .slice none 0 0, .agg #[.int .i64 3, .int .i64 (-4)]]) (by simp [results, Tryd.results7, go_sem, kHR, kHS]) rfl ⟨_, _, _, rfl, Kd.N_V (Kd.N_nil _ _ V2 0 _), Kd.N_V (Kd.N_nil _ _ V2 0 _), Kd.N_V (Kd.N_nil _ _ V2 0 _), HB.out⟩
set_option maxHeartbeats 4000000 in
set_option maxRecDepth 100000 in
theorem Merge_c (k : Nat) (a0 a1 a2 : Int) (aA : Option Addr) (aa : Nat) (a3 : List (S55)) (aB : Option Addr) (ab : Nat) (a4 : List (S75)) (base : Int) (qA : Option Addr) (qa : Nat) (ql : List (S43)) (w : World) (ha3 : Kd.C k55 w aA a3.length a3) (ea3 : a3.length ≤ aa) (ha4 : Kd.C k75 w aB a4.length a4) (ea4 : a4.length ≤ ab) (hql : Kd.C k43 w qA ql.length ql) (eql : ql.length ≤ qa) (x y : Int) (ht : mailbox_Validate.f k a0 a1 a2 a3 a4 = some (0, 0)) (hok : 1 ≤ base ∧ base ≤ a1) (hu : offline_queued.f k ql = some (x, y)) (hx : (x == 0 && (y == 0)) = false) :
    Calls Tryd.prog 7 #[.agg #[.int .i64 a0, .int .i64 a1, .int .i64 a2, .slice aA a3.length aa, .slice aB a4.length ab], .int .i64 base, .slice qA ql.length qa] w fun e w' => ∃ v3 v4 vs, e = .returned (.tuple #[.agg #[.int .i64 0, .int .i64 0, .int .i64 0, v3, v4], vs, .agg #[.int .i64 x, .int .i64 y]]) ∧ Kd.V k55 55 w' 0 (fun k_ => w.heap.size ≤ k_) v3 ([]) ∧ Kd.V k75 75 w' 0 (fun k_ => w.heap.size ≤ k_) v4 ([]) ∧ Kd.V k68 68 w' 0 (fun k_ => w.heap.size ≤ k_) vs ([]) ∧ Below w.heap.size w w' := by
  have d1 : decide (base < 1) = false := decide_eq_false (by omega)
  have d2 : decide (a1 < base) = false := decide_eq_false (by omega)
  clear hok
  have HA3 := Aside0.mk ha3
  have HA4 := Aside0.mk ha4
  have HQL := Aside0.mk hql
  have HT := Aside0.mk ht
  have HU := Aside0.mk hu
  clear ha3 ha4 hql ht hu
  have hus := Tryd.underlying25
  have huf := Tryd.underlying29
  have huq := Tryd.underlying43
  have huc := Tryd.underlying70
  have hmm := @run_makeMap Tryd.prog
  have HB := Aside0.mk (below_alloc (below_alloc (below_alloc (Below.refl w.heap.size w) (.cells #[.int .i64 a0, .int .i64 a1, .int .i64 a2, .slice aA a3.length aa, .slice aB a4.length ab] 25)) (.cells #[.int .i64 0, .int .i64 0, .int .i64 0, .slice none 0 0, .slice none 0 0] 25)) (.cells #[.int .i64 0, .int .i64 0] 29))
  have HA := Aside0.mk (blk_later (blk_later (blk_at (w := w) (.cells #[.int .i64 a0, .int .i64 a1, .int .i64 a2, .slice aA a3.length aa, .slice aB a4.length ab] 25)) (.cells #[.int .i64 0, .int .i64 0, .int .i64 0, .slice none 0 0, .slice none 0 0] 25)) (.cells #[.int .i64 0, .int .i64 0] 29))
  have HR := Aside0.mk (blk_later (blk_at1 (w := w) (.cells #[.int .i64 a0, .int .i64 a1, .int .i64 a2, .slice aA a3.length aa, .slice aB a4.length ab] 25) (.cells #[.int .i64 0, .int .i64 0, .int .i64 0, .slice none 0 0, .slice none 0 0] 25)) (.cells #[.int .i64 0, .int .i64 0] 29))
  have HS := Aside0.mk (blk_at2 (w := w) (.cells #[.int .i64 a0, .int .i64 a1, .int .i64 a2, .slice aA a3.length aa, .slice aB a4.length ab] 25) (.cells #[.int .i64 0, .int .i64 0, .int .i64 0, .slice none 0 0, .slice none 0 0] 25) (.cells #[.int .i64 0, .int .i64 0] 29))
  go_enter Tryd.func7, Tryd.ntmps7
  go_wp2_with fail
  refine (mailbox_Validate.calls k a0 a1 a2 aA aa a3 aB ab a4 0 0 _ (Kd.C_below HA3.out HB.out) ea3 (Kd.C_below HA4.out HB.out) ea4 HT.out).mono ?_
  rintro e w1 ⟨rfl, hb⟩
  replace HA := Aside0.mk (blk_call HA.out hb)
  replace HR := Aside0.mk (blk_call HR.out hb)
  replace HS := Aside0.mk (blk_call HS.out hb)
  replace HB := Aside0.mk (below_step HB.out hb)
  clear hb
  have kHA := bc0 HA.out
  have mHA := bc1 HA.out
  have nHA := bc2 HA.out
  have fHA := bf0 HA.out
  have yHA := blk_lt HA.out
  go_wp2_with fail
  clear kHA mHA nHA fHA yHA
  have l1_t1 := blk_lt HA.out
  have l2_t1 := blk_lt HR.out
  have l3_t1 := blk_lt HS.out
  replace HA := Aside0.mk (blk_later HA.out (.cells #[.int .i64 0, .int .i64 0] 29))
  replace HR := Aside0.mk (blk_later HR.out (.cells #[.int .i64 0, .int .i64 0] 29))
  replace HS := Aside0.mk (blk_later HS.out (.cells #[.int .i64 0, .int .i64 0] 29))
  replace HB := Aside0.mk (below_alloc HB.out (.cells #[.int .i64 0, .int .i64 0] 29))
  have HF := Aside0.mk (blk_at (w := w1) (.cells #[.int .i64 0, .int .i64 0] 29))
  have hs1 : (w1.alloc (.cells #[.int .i64 0, .int .i64 0] 29)).heap.size = w1.heap.size + 1 := by simp
  generalize w1.alloc (.cells #[.int .i64 0, .int .i64 0] 29) = X2 at *
  generalize w1.heap.size = t1_ at *
  refine (offline_queued.calls k qA qa ql x y _ (Kd.C_below HQL.out HB.out) eql HU.out).mono ?_
  rintro e w3 ⟨rfl, hb⟩
  replace HA := Aside0.mk (blk_call HA.out hb)
  replace HR := Aside0.mk (blk_call HR.out hb)
  replace HS := Aside0.mk (blk_call HS.out hb)
  replace HF := Aside0.mk (blk_call HF.out hb)
  replace HB := Aside0.mk (below_step HB.out hb)
  clear hb
  have ne1 := eq_false (show ¬ (w.heap.size = t1_) by omega)
  have ne2 := eq_false (show ¬ (t1_ = w.heap.size) by omega)
  have kHF := bc0 HF.out
  have mHF := bc1 HF.out
  have nHF := bc2 HF.out
  have fHF := bf0 HF.out
  have yHF := blk_lt HF.out
  have kHA := bc0 HA.out
  have mHA := bc1 HA.out
  have nHA := bc2 HA.out
  have fHA := bf0 HA.out
  have yHA := blk_lt HA.out
  go_wp2_with fail
  clear kHF mHF nHF fHF yHF kHA mHA nHA fHA yHA
  replace HA := Aside0.mk (blk_far (p := ⟨t1_, 1, none⟩) (blk_far (p := ⟨t1_, 0, none⟩) HA.out (show w.heap.size ≠ t1_ by omega) (.int .i64 x)) (show w.heap.size ≠ t1_ by omega) (.int .i64 y))
  replace HR := Aside0.mk (blk_far (p := ⟨t1_, 1, none⟩) (blk_far (p := ⟨t1_, 0, none⟩) HR.out (show w.heap.size + 1 ≠ t1_ by omega) (.int .i64 x)) (show w.heap.size + 1 ≠ t1_ by omega) (.int .i64 y))
  replace HS := Aside0.mk (blk_far (p := ⟨t1_, 1, none⟩) (blk_far (p := ⟨t1_, 0, none⟩) HS.out (show w.heap.size + 1 + 1 ≠ t1_ by omega) (.int .i64 x)) (show w.heap.size + 1 + 1 ≠ t1_ by omega) (.int .i64 y))
  replace HF : Aside0 ((((w3).setCell ⟨t1_, 0, none⟩ (.int .i64 x)).setCell ⟨t1_, 1, none⟩ (.int .i64 y)).heap[t1_]? = some (.cells #[(.int .i64 x), (.int .i64 y)] 29 (0, 0))) := Aside0.mk (blk_put (blk_put HF.out 0 (.int .i64 x) rfl) 1 (.int .i64 y) rfl)
  replace HB := Aside0.mk (below_set (j := 1) (v := (.int .i64 y)) (below_set (j := 0) (v := (.int .i64 x)) HB.out (show w.heap.size ≤ t1_ by omega)) (show w.heap.size ≤ t1_ by omega))
  generalize ((w3).setCell ⟨t1_, 0, none⟩ (.int .i64 x)).setCell ⟨t1_, 1, none⟩ (.int .i64 y) = X4 at *
  refine region_till 4 (fun _ => True) (fun w' : World => w'.cell? ⟨t1_, 0, none⟩ = some (.int .i64 x) ∧ w'.cell? ⟨t1_, 1, none⟩ = some (.int .i64 y)) (by kernel_rfl) ⟨trivial, ⟨bc0 (blk_drew HF.out) 0, bc0 (blk_drew HF.out) 1⟩⟩ (fun hTU => ?_)
  replace HA := Aside0.mk (blk_drew HA.out)
  replace HR := Aside0.mk (blk_drew HR.out)
  replace HS := Aside0.mk (blk_drew HS.out)
  replace HF := Aside0.mk (blk_drew HF.out)
  replace HB := Aside0.mk (below_drew1 HB.out)
  generalize X4.drew = V0 at *
  refine till_freeD (i := 0) (v := ?_) (some 44) rfl rfl (by decide) (by kernel_rfl) (by kernel_rfl) (by kernel_rfl) (fun _ _ _ h => h) (Or.inl ⟨by rfl, ?_⟩) ⟨hTU.1, fun _ => hTU.2⟩ ?_
  rotate_left
  · (intro w_ _; go_simp; try with_reducible rfl)
  try simp only [Act.put, List.setIfInBounds_toArray, List.set_cons_zero, List.set_cons_succ]
  refine till_takeD (i := 1) (v := ?_) (some 45) rfl rfl (by kernel_rfl) (by kernel_rfl) (by kernel_rfl) (by kernel_rfl) (fun _ _ _ h => h) (Or.inl ⟨by rfl, ?_⟩) (by assumption) ?_
  rotate_left
  · (intro w_ hS_; (try dsimp only at hS_); go_simp; try with_reducible rfl)
  try simp only [Act.put, List.setIfInBounds_toArray, List.set_cons_zero, List.set_cons_succ]
  refine till_one (i := 2) (by kernel_rfl) rfl (fun K hK => ?_)
  have kHR := bc0 HR.out
  have fHR := bf0 HR.out
  have yHR := blk_lt HR.out
  go_simp
  clear kHR fHR yHR
  replace HA := Aside0.mk (blk_far (p := ⟨w.heap.size + 1, 4, none⟩) (blk_far (p := ⟨w.heap.size + 1, 3, none⟩) (blk_far (p := ⟨w.heap.size + 1, 2, none⟩) (blk_far (p := ⟨w.heap.size + 1, 1, none⟩) (blk_far (p := ⟨w.heap.size + 1, 0, none⟩) HA.out (show w.heap.size ≠ w.heap.size + 1 by omega) (.int .i64 0)) (show w.heap.size ≠ w.heap.size + 1 by omega) (.int .i64 0)) (show w.heap.size ≠ w.heap.size + 1 by omega) (.int .i64 0)) (show w.heap.size ≠ w.heap.size + 1 by omega) (.slice none 0 0)) (show w.heap.size ≠ w.heap.size + 1 by omega) (.slice none 0 0))
  replace HR : Aside0 (((((((V0).setCell ⟨w.heap.size + 1, 0, none⟩ (.int .i64 0)).setCell ⟨w.heap.size + 1, 1, none⟩ (.int .i64 0)).setCell ⟨w.heap.size + 1, 2, none⟩ (.int .i64 0)).setCell ⟨w.heap.size + 1, 3, none⟩ (.slice none 0 0)).setCell ⟨w.heap.size + 1, 4, none⟩ (.slice none 0 0)).heap[w.heap.size + 1]? = some (.cells #[(.int .i64 0), (.int .i64 0), (.int .i64 0), (.slice none 0 0), (.slice none 0 0)] 25 (0, 0))) := Aside0.mk (blk_put (blk_put (blk_put (blk_put (blk_put HR.out 0 (.int .i64 0) rfl) 1 (.int .i64 0) rfl) 2 (.int .i64 0) rfl) 3 (.slice none 0 0) rfl) 4 (.slice none 0 0) rfl)
  replace HS := Aside0.mk (blk_far (p := ⟨w.heap.size + 1, 4, none⟩) (blk_far (p := ⟨w.heap.size + 1, 3, none⟩) (blk_far (p := ⟨w.heap.size + 1, 2, none⟩) (blk_far (p := ⟨w.heap.size + 1, 1, none⟩) (blk_far (p := ⟨w.heap.size + 1, 0, none⟩) HS.out (show w.heap.size + 1 + 1 ≠ w.heap.size + 1 by omega) (.int .i64 0)) (show w.heap.size + 1 + 1 ≠ w.heap.size + 1 by omega) (.int .i64 0)) (show w.heap.size + 1 + 1 ≠ w.heap.size + 1 by omega) (.int .i64 0)) (show w.heap.size + 1 + 1 ≠ w.heap.size + 1 by omega) (.slice none 0 0)) (show w.heap.size + 1 + 1 ≠ w.heap.size + 1 by omega) (.slice none 0 0))
  replace HF := Aside0.mk (blk_far (p := ⟨w.heap.size + 1, 4, none⟩) (blk_far (p := ⟨w.heap.size + 1, 3, none⟩) (blk_far (p := ⟨w.heap.size + 1, 2, none⟩) (blk_far (p := ⟨w.heap.size + 1, 1, none⟩) (blk_far (p := ⟨w.heap.size + 1, 0, none⟩) HF.out (show t1_ ≠ w.heap.size + 1 by omega) (.int .i64 0)) (show t1_ ≠ w.heap.size + 1 by omega) (.int .i64 0)) (show t1_ ≠ w.heap.size + 1 by omega) (.int .i64 0)) (show t1_ ≠ w.heap.size + 1 by omega) (.slice none 0 0)) (show t1_ ≠ w.heap.size + 1 by omega) (.slice none 0 0))
  replace HB := Aside0.mk (below_set (j := 4) (v := (.slice none 0 0)) (below_set (j := 3) (v := (.slice none 0 0)) (below_set (j := 2) (v := (.int .i64 0)) (below_set (j := 1) (v := (.int .i64 0)) (below_set (j := 0) (v := (.int .i64 0)) HB.out (show w.heap.size ≤ w.heap.size + 1 by omega)) (show w.heap.size ≤ w.heap.size + 1 by omega)) (show w.heap.size ≤ w.heap.size + 1 by omega)) (show w.heap.size ≤ w.heap.size + 1 by omega)) (show w.heap.size ≤ w.heap.size + 1 by omega))
  generalize (((((V0).setCell ⟨w.heap.size + 1, 0, none⟩ (.int .i64 0)).setCell ⟨w.heap.size + 1, 1, none⟩ (.int .i64 0)).setCell ⟨w.heap.size + 1, 2, none⟩ (.int .i64 0)).setCell ⟨w.heap.size + 1, 3, none⟩ (.slice none 0 0)).setCell ⟨w.heap.size + 1, 4, none⟩ (.slice none 0 0) = V1 at *
  refine hK.out _ _ trivial (fun _ _ => ⟨bc0 HF.out 0, bc0 HF.out 1⟩) (fun hTV => ?_)
  clear hK K hTU
  have hTU := hTV (by kernel_rfl) (by decide)
  clear hTV
  try simp only [Act.put, List.setIfInBounds_toArray, List.set_cons_zero, List.set_cons_succ]
  refine till_freeD (i := 3) (v := ?_) (some 7) rfl rfl (by decide) (by kernel_rfl) (by kernel_rfl) (by kernel_rfl) (fun _ _ _ h => h) (Or.inl ⟨by rfl, ?_⟩) ⟨hTU.1, fun _ => hTU.2⟩ ?_
  rotate_left
  · (intro w_ _; go_simp; try with_reducible rfl)
  try simp only [Act.put, List.setIfInBounds_toArray, List.set_cons_zero, List.set_cons_succ]
  refine till_one (i := 4) (by kernel_rfl) rfl (fun K hK => ?_)
  have kHS := bc0 HS.out
  have fHS := bf0 HS.out
  have yHS := blk_lt HS.out
  go_simp
  clear kHS fHS yHS
  replace HA := Aside0.mk (blk_far (p := ⟨w.heap.size + 1 + 1, 1, none⟩) (blk_far (p := ⟨w.heap.size + 1 + 1, 0, none⟩) HA.out (show w.heap.size ≠ w.heap.size + 1 + 1 by omega) (.int .i64 x)) (show w.heap.size ≠ w.heap.size + 1 + 1 by omega) (.int .i64 y))
  replace HR := Aside0.mk (blk_far (p := ⟨w.heap.size + 1 + 1, 1, none⟩) (blk_far (p := ⟨w.heap.size + 1 + 1, 0, none⟩) HR.out (show w.heap.size + 1 ≠ w.heap.size + 1 + 1 by omega) (.int .i64 x)) (show w.heap.size + 1 ≠ w.heap.size + 1 + 1 by omega) (.int .i64 y))
  replace HS : Aside0 ((((V1).setCell ⟨w.heap.size + 1 + 1, 0, none⟩ (.int .i64 x)).setCell ⟨w.heap.size + 1 + 1, 1, none⟩ (.int .i64 y)).heap[w.heap.size + 1 + 1]? = some (.cells #[(.int .i64 x), (.int .i64 y)] 29 (0, 0))) := Aside0.mk (blk_put (blk_put HS.out 0 (.int .i64 x) rfl) 1 (.int .i64 y) rfl)
  replace HF := Aside0.mk (blk_far (p := ⟨w.heap.size + 1 + 1, 1, none⟩) (blk_far (p := ⟨w.heap.size + 1 + 1, 0, none⟩) HF.out (show t1_ ≠ w.heap.size + 1 + 1 by omega) (.int .i64 x)) (show t1_ ≠ w.heap.size + 1 + 1 by omega) (.int .i64 y))
  replace HB := Aside0.mk (below_set (j := 1) (v := (.int .i64 y)) (below_set (j := 0) (v := (.int .i64 x)) HB.out (show w.heap.size ≤ w.heap.size + 1 + 1 by omega)) (show w.heap.size ≤ w.heap.size + 1 + 1 by omega))
  generalize ((V1).setCell ⟨w.heap.size + 1 + 1, 0, none⟩ (.int .i64 x)).setCell ⟨w.heap.size + 1 + 1, 1, none⟩ (.int .i64 y) = V2 at *
  refine hK.out _ _ trivial (fun _ h => absurd rfl h) (fun _ => ?_)
  clear hK K hTU
  refine till_done (by kernel_rfl) ?_ _
  go_wp2
  have kHR := bc0 HR.out
  have kHS := bc0 HS.out
  exact bodyPost_ret (v := .tuple #[.agg #[.int .i64 0, .int .i64 0, .int .i64 0, .slice none 0 0, .slice none 0 0], .slice none 0 0, .agg #[.int .i64 x, .int .i64 y]]) (by simp [results, Tryd.results7, go_sem, kHR, kHS]) rfl ⟨_, _, _, rfl, Kd.N_V (Kd.N_nil _ _ V2 0 _), Kd.N_V (Kd.N_nil _ _ V2 0 _), Kd.N_V (Kd.N_nil _ _ V2 0 _), HB.out⟩
set_option maxHeartbeats 4000000 in
set_option maxRecDepth 100000 in
theorem Merge_d (k : Nat) (a0 a1 a2 : Int) (aA : Option Addr) (aa : Nat) (a3 : List (S55)) (aB : Option Addr) (ab : Nat) (a4 : List (S75)) (base : Int) (qA : Option Addr) (qa : Nat) (ql : List (S43)) (w : World) (ha3 : Kd.C k55 w aA a3.length a3) (ea3 : a3.length ≤ aa) (ha4 : Kd.C k75 w aB a4.length a4) (ea4 : a4.length ≤ ab) (hql : Kd.C k43 w qA ql.length ql) (eql : ql.length ≤ qa) (haw : (Lit.int .i64 a1).wf = true) (hqw : ∀ q ∈ ql, (Lit.int .i64 q.f0).wf = true) (r0 r1 r2 : Int) (r3 : List (S55)) (r4 : List (S75)) (sl : List (S68)) (ht : mailbox_Validate.f k a0 a1 a2 a3 a4 = some (0, 0)) (hok : 1 ≤ base ∧ base ≤ a1) (hu : offline_queued.f k ql = some (0, 0)) (hsz : msized a3 a4 ql) (hm : (mergeAll base ql a0 a1 a2 a3 a4 []).1 = (r0, r1, r2, r3, r4) ∧ (mergeAll base ql a0 a1 a2 a3 a4 []).2 = sl) :
    Calls Tryd.prog 7 #[.agg #[.int .i64 a0, .int .i64 a1, .int .i64 a2, .slice aA a3.length aa, .slice aB a4.length ab], .int .i64 base, .slice qA ql.length qa] w fun e w' => ∃ v3 v4 vs, e = .returned (.tuple #[.agg #[.int .i64 r0, .int .i64 r1, .int .i64 r2, v3, v4], vs, .agg #[.int .i64 0, .int .i64 0]]) ∧ Kd.V k55 55 w' 0 (fun k_ => w.heap.size ≤ k_) v3 (r3) ∧ Kd.V k75 75 w' 0 (fun k_ => w.heap.size ≤ k_) v4 (r4) ∧ Kd.V k68 68 w' 0 (fun k_ => w.heap.size ≤ k_) vs (sl) ∧ Below w.heap.size w w' := by
  have HSZ := Aside0.mk hsz
  have HQW := Aside0.mk hqw
  have HM := Aside0.mk hm
  have HAW := Aside0.mk haw
  clear hsz hqw hm haw
  have d1 : decide (base < 1) = false := decide_eq_false (by omega)
  have d2 : decide (a1 < base) = false := decide_eq_false (by omega)
  clear hok
  have HA3 := Aside0.mk ha3
  have HA4 := Aside0.mk ha4
  have HQL := Aside0.mk hql
  have HT := Aside0.mk ht
  have HU := Aside0.mk hu
  clear ha3 ha4 hql ht hu
  have hus := Tryd.underlying25
  have huf := Tryd.underlying29
  have huq := Tryd.underlying43
  have huc := Tryd.underlying70
  have hmm := @run_makeMap Tryd.prog
  have HB := Aside0.mk (below_alloc (below_alloc (below_alloc (Below.refl w.heap.size w) (.cells #[.int .i64 a0, .int .i64 a1, .int .i64 a2, .slice aA a3.length aa, .slice aB a4.length ab] 25)) (.cells #[.int .i64 0, .int .i64 0, .int .i64 0, .slice none 0 0, .slice none 0 0] 25)) (.cells #[.int .i64 0, .int .i64 0] 29))
  have HA := Aside0.mk (blk_later (blk_later (blk_at (w := w) (.cells #[.int .i64 a0, .int .i64 a1, .int .i64 a2, .slice aA a3.length aa, .slice aB a4.length ab] 25)) (.cells #[.int .i64 0, .int .i64 0, .int .i64 0, .slice none 0 0, .slice none 0 0] 25)) (.cells #[.int .i64 0, .int .i64 0] 29))
  have HR := Aside0.mk (blk_later (blk_at1 (w := w) (.cells #[.int .i64 a0, .int .i64 a1, .int .i64 a2, .slice aA a3.length aa, .slice aB a4.length ab] 25) (.cells #[.int .i64 0, .int .i64 0, .int .i64 0, .slice none 0 0, .slice none 0 0] 25)) (.cells #[.int .i64 0, .int .i64 0] 29))
  have HS := Aside0.mk (blk_at2 (w := w) (.cells #[.int .i64 a0, .int .i64 a1, .int .i64 a2, .slice aA a3.length aa, .slice aB a4.length ab] 25) (.cells #[.int .i64 0, .int .i64 0, .int .i64 0, .slice none 0 0, .slice none 0 0] 25) (.cells #[.int .i64 0, .int .i64 0] 29))
  go_enter Tryd.func7, Tryd.ntmps7
  go_wp2_with fail
  refine (mailbox_Validate.calls k a0 a1 a2 aA aa a3 aB ab a4 0 0 _ (Kd.C_below HA3.out HB.out) ea3 (Kd.C_below HA4.out HB.out) ea4 HT.out).mono ?_
  rintro e w1 ⟨rfl, hb⟩
  replace HA := Aside0.mk (blk_call HA.out hb)
  replace HR := Aside0.mk (blk_call HR.out hb)
  replace HS := Aside0.mk (blk_call HS.out hb)
  replace HB := Aside0.mk (below_step HB.out hb)
  clear hb
  have kHA := bc0 HA.out
  have mHA := bc1 HA.out
  have nHA := bc2 HA.out
  have fHA := bf0 HA.out
  have yHA := blk_lt HA.out
  go_wp2_with fail
  clear kHA mHA nHA fHA yHA
  have l1_t1 := blk_lt HA.out
  have l2_t1 := blk_lt HR.out
  have l3_t1 := blk_lt HS.out
  replace HA := Aside0.mk (blk_later HA.out (.cells #[.int .i64 0, .int .i64 0] 29))
  replace HR := Aside0.mk (blk_later HR.out (.cells #[.int .i64 0, .int .i64 0] 29))
  replace HS := Aside0.mk (blk_later HS.out (.cells #[.int .i64 0, .int .i64 0] 29))
  replace HB := Aside0.mk (below_alloc HB.out (.cells #[.int .i64 0, .int .i64 0] 29))
  have HF := Aside0.mk (blk_at (w := w1) (.cells #[.int .i64 0, .int .i64 0] 29))
  have hs1 : (w1.alloc (.cells #[.int .i64 0, .int .i64 0] 29)).heap.size = w1.heap.size + 1 := by simp
  generalize w1.alloc (.cells #[.int .i64 0, .int .i64 0] 29) = X2 at *
  generalize w1.heap.size = t1_ at *
  refine (offline_queued.calls k qA qa ql 0 0 _ (Kd.C_below HQL.out HB.out) eql HU.out).mono ?_
  rintro e w3 ⟨rfl, hb⟩
  replace HA := Aside0.mk (blk_call HA.out hb)
  replace HR := Aside0.mk (blk_call HR.out hb)
  replace HS := Aside0.mk (blk_call HS.out hb)
  replace HF := Aside0.mk (blk_call HF.out hb)
  replace HB := Aside0.mk (below_step HB.out hb)
  clear hb
  have ne1 := eq_false (show ¬ (w.heap.size = t1_) by omega)
  have ne2 := eq_false (show ¬ (t1_ = w.heap.size) by omega)
  have kHF := bc0 HF.out
  have mHF := bc1 HF.out
  have nHF := bc2 HF.out
  have fHF := bf0 HF.out
  have yHF := blk_lt HF.out
  have kHA := bc0 HA.out
  have mHA := bc1 HA.out
  have nHA := bc2 HA.out
  have fHA := bf0 HA.out
  have yHA := blk_lt HA.out
  go_wp2_with fail
  clear kHF mHF nHF fHF yHF kHA mHA nHA fHA yHA
  replace HA := Aside0.mk (blk_far (p := ⟨t1_, 1, none⟩) (blk_far (p := ⟨t1_, 0, none⟩) HA.out (show w.heap.size ≠ t1_ by omega) (.int .i64 0)) (show w.heap.size ≠ t1_ by omega) (.int .i64 0))
  replace HR := Aside0.mk (blk_far (p := ⟨t1_, 1, none⟩) (blk_far (p := ⟨t1_, 0, none⟩) HR.out (show w.heap.size + 1 ≠ t1_ by omega) (.int .i64 0)) (show w.heap.size + 1 ≠ t1_ by omega) (.int .i64 0))
  replace HS := Aside0.mk (blk_far (p := ⟨t1_, 1, none⟩) (blk_far (p := ⟨t1_, 0, none⟩) HS.out (show w.heap.size + 1 + 1 ≠ t1_ by omega) (.int .i64 0)) (show w.heap.size + 1 + 1 ≠ t1_ by omega) (.int .i64 0))
  replace HF : Aside0 ((((w3).setCell ⟨t1_, 0, none⟩ (.int .i64 0)).setCell ⟨t1_, 1, none⟩ (.int .i64 0)).heap[t1_]? = some (.cells #[(.int .i64 0), (.int .i64 0)] 29 (0, 0))) := Aside0.mk (blk_put (blk_put HF.out 0 (.int .i64 0) rfl) 1 (.int .i64 0) rfl)
  replace HB := Aside0.mk (below_set (j := 1) (v := (.int .i64 0)) (below_set (j := 0) (v := (.int .i64 0)) HB.out (show w.heap.size ≤ t1_ by omega)) (show w.heap.size ≤ t1_ by omega))
  generalize ((w3).setCell ⟨t1_, 0, none⟩ (.int .i64 0)).setCell ⟨t1_, 1, none⟩ (.int .i64 0) = X4 at *
  refine (mailbox_Clone.calls (fun k_ => k_ < w.heap.size) a0 a1 a2 _ _ a3 _ _ a4 _ (Kd.F_below (Kd.C_F heapStoredM HA3.out) HB.out) ea3 (Kd.F_below (Kd.C_F heapGoneM HA4.out) HB.out) ea4 (by have := HSZ.out.1; omega) (by have := HSZ.out.2.1; omega) (fun e he => by have := HSZ.out.2.2.2 e he; omega)).mono ?_
  rintro e w5 ⟨B3, b3, B4, b4, rfl, hl3, hN3, hN4, hb⟩
  have hsz5 := below_size hb
  have hszb := below_size HB.out
  have HN3 := Aside0.mk hN3
  have HN4 := Aside0.mk hN4
  clear hN3 hN4
  have l4_x4 := blk_lt HA.out
  have l5_x4 := blk_lt HR.out
  have l6_x4 := blk_lt HS.out
  have l7_x4 := blk_lt HF.out
  replace HA := Aside0.mk (blk_call HA.out hb)
  replace HR := Aside0.mk (blk_call HR.out hb)
  replace HS := Aside0.mk (blk_call HS.out hb)
  replace HF := Aside0.mk (blk_call HF.out hb)
  replace HB := Aside0.mk (below_step HB.out hb)
  clear hb
  clear HA
  go_wp2_with fail
  have hszM : (w5.alloc (.cells #[.int .i64 a0, .int .i64 a1, .int .i64 a2, .slice B3 a3.length b3, .slice B4 a4.length b4] 25)).heap.size = w5.heap.size + 1 := by rw [World.size_alloc]
  have HW : Aside0 (Rows ((w5.alloc (.cells #[.int .i64 a0, .int .i64 a1, .int .i64 a2, .slice B3 a3.length b3, .slice B4 a4.length b4] 25)).alloc (.map #[] 0)) X4.heap.size w5.heap.size (w5.heap.size + 1) a0 a1 a2 (.slice B3 a3.length b3) a3 (.slice B4 a4.length b4) a4 (.slice none 0 0) [] []) := by
    have hb0 := Kd.N_bound HN3.out
    have hb1 := Kd.N_bound HN4.out
    refine ⟨blk_later (blk_at _) _, ?_, ?_, Kd.N_nil _ _ _ _ _, by have := MW_made (w5.alloc (.cells #[.int .i64 a0, .int .i64 a1, .int .i64 a2, .slice B3 a3.length b3, .slice B4 a4.length b4] 25)); rw [hszM] at this; exact this, hsz5, by omega, by omega⟩
    · exact Kd.N_mono (Kd.N_alloc (Kd.N_alloc (Kd.N_lower hb0 (show X4.heap.size ≤ X4.heap.size + 1 + 1 by omega)) _) _) (fun k hk => ⟨⟨by have := hk.1.1; omega, by have := hk.2; omega, by have := hk.2; omega, by simp [Value.ownBlock]⟩, hk.1.2⟩)
    · exact GN_mono (GN_alloc (GN_alloc (N_GN (Kd.N_lower hb1 (show X4.heap.size ≤ X4.heap.size + 1 + 1 by omega))) _) _) (fun k hk => ⟨⟨by have := hk.1.1; omega, by have := hk.2; omega, by have := hk.2; omega, by simp [Value.ownBlock]⟩, hk.1.2⟩)
  clear HN3 HN4
  have l8_P := blk_lt HR.out
  have l9_P := blk_lt HS.out
  have l10_P := blk_lt HF.out
  replace HR := Aside0.mk (blk_later HR.out (.cells #[.int .i64 a0, .int .i64 a1, .int .i64 a2, .slice B3 a3.length b3, .slice B4 a4.length b4] 25))
  replace HS := Aside0.mk (blk_later HS.out (.cells #[.int .i64 a0, .int .i64 a1, .int .i64 a2, .slice B3 a3.length b3, .slice B4 a4.length b4] 25))
  replace HF := Aside0.mk (blk_later HF.out (.cells #[.int .i64 a0, .int .i64 a1, .int .i64 a2, .slice B3 a3.length b3, .slice B4 a4.length b4] 25))
  replace HB := Aside0.mk (below_alloc HB.out (.cells #[.int .i64 a0, .int .i64 a1, .int .i64 a2, .slice B3 a3.length b3, .slice B4 a4.length b4] 25))
  have HP := Aside0.mk (blk_at (w := w5) (.cells #[.int .i64 a0, .int .i64 a1, .int .i64 a2, .slice B3 a3.length b3, .slice B4 a4.length b4] 25))
  have hs5 : (w5.alloc (.cells #[.int .i64 a0, .int .i64 a1, .int .i64 a2, .slice B3 a3.length b3, .slice B4 a4.length b4] 25)).heap.size = w5.heap.size + 1 := by simp
  generalize w5.alloc (.cells #[.int .i64 a0, .int .i64 a1, .int .i64 a2, .slice B3 a3.length b3, .slice B4 a4.length b4] 25) = X6 at *
  generalize w5.heap.size = P at *
  clear HP
  replace HR := Aside0.mk (blk_later HR.out (.map #[] 0))
  replace HS := Aside0.mk (blk_later HS.out (.map #[] 0))
  replace HF := Aside0.mk (blk_later HF.out (.map #[] 0))
  replace HB := Aside0.mk (below_alloc HB.out (.map #[] 0))
  generalize X6.alloc (.map #[] 0) = X7 at *
  clear hs5 hszM
  generalize X4.heap.size = bs at *
  go_loopg [51, 12] ql.length (fun gg v51 v12 W => ∃ (i : Nat) (m0 m1 m2 : Int) (v3 : Value) (l3 : List (S55)) (v4 : Value) (l4 : List (S75)) (rv : Value) (done : List (S68)) (own : List (Int × Int)), i ≤ ql.length ∧ ql.length - i ≤ gg ∧ v51 = .int .i64 i ∧ rv = v12 ∧ (Lit.int .i64 m1).wf = true ∧ done.length ≤ i ∧ own.length ≤ i ∧ l4.length ≤ a4.length + i ∧ Aside0 ((mergeAll base (ql.drop i) m0 m1 m2 l3 l4 own).1 = (r0, r1, r2, r3, r4) ∧ done ++ (mergeAll base (ql.drop i) m0 m1 m2 l3 l4 own).2 = sl) ∧ Aside0 (W.heap[w.heap.size + 1]? = some (.cells #[.int .i64 0, .int .i64 0, .int .i64 0, .slice none 0 0, .slice none 0 0] 25 (0, 0))) ∧ Aside0 (W.heap[w.heap.size + 1 + 1]? = some (.cells #[.int .i64 0, .int .i64 0] 29 (0, 0))) ∧ Aside0 (W.heap[t1_]? = some (.cells #[.int .i64 0, .int .i64 0] 29 (0, 0))) ∧ Aside0 (Rows W bs P (P + 1) m0 m1 m2 v3 l3 v4 l4 rv done own) ∧ Aside0 (Below w.heap.size w W))
  case atStart => exact ⟨0, a0, a1, a2, _, a3, _, a4, _, [], [], Nat.zero_le _, Nat.le_refl _, rfl, rfl, HAW.out, Nat.le_refl _, Nat.le_refl _, Nat.le_refl _, HM, HR, HS, HF, HW, HB⟩
  case round =>
  clear HR HS HF HW HB HM
  obtain ⟨i, m0, m1, m2, v3, l3, v4, l4, rv, done, own, hi, hg, rfl, rfl, hmwf, hdl, hol, h4l, HE, HR, HS, HF, HW, HB⟩ := hrel
  obtain ⟨C3, c3, rfl⟩ := Kd.N_slice HW.out.n3
  obtain ⟨C4, c4, rfl⟩ := GN_slice HW.out.n4
  by_cases hlt : i < ql.length
  · skip
    have HLT := Aside0.mk hlt
    obtain ⟨q, hqi⟩ : ∃ q, ql[i]? = some q := ⟨_, List.getElem?_eq_getElem hlt⟩
    have hdr : ql.drop i = q :: ql.drop (i + 1) := by rw [List.drop_eq_getElem_cons hlt]; congr 1; exact Option.some.inj ((List.getElem?_eq_getElem hlt).symm.trans hqi)
    have hqwf := HQW.out q (List.mem_of_getElem? hqi)
    have HE1 := Aside0.mk (by have h9 := HE.out; rw [hdr] at h9; exact h9)
    clear HE hdr
    obtain ⟨ad, hqA, q0, q1, q2, q3⟩ := at_T43 (Kd.C_below HQL.out HB.out) (i : Int) (by omega) (by omega)
    have hrd : rd_T43 ql (i : Int) = q := by unfold rd_T43; rw [Int.toNat_natCast, List.getD_eq_getElem?_getD, hqi]; rfl
    rw [hrd, Int.toNat_natCast] at q0 q1 q2 q3
    clear hrd hqi
    subst hqA
    have i0 : decide ((i : Int) < (ql.length : Int)) = true := decide_eq_true (by omega)
    have i1 : decide (0 ≤ (i : Int)) = true := decide_eq_true (by omega)
    have hP1 := blk_lt HW.out.p
    have kP := bc0 HW.out.p
    have kP1 := bc1 HW.out.p
    go_wp2_with fail
    clear kP kP1 q0 q1 q2 q3
    have HRV := Aside0.mk (fun k hk => (HW.out.or k hk).2.2)
    have HRB := Aside0.mk (fun k hk => (HW.out.or k hk).1.1)
    have HV3 := Aside0.mk (fun k hk => (HW.out.o3 k hk).2.2)
    have HV4 := Aside0.mk (fun k hk => (HW.out.o4 k hk).2.2)
    have hbP := Aside0.mk HW.out.bp
    have HWF := Aside0.mk hmwf
    clear hmwf
    replace HW := Aside0.mk (HW.out.alloc (.cells #[.int .i64 q.f0, .int .i64 q.f1, .int .i64 q.f2, .bool q.f3] 43))
    have l1_p1 := blk_lt HR.out
    have l2_p1 := blk_lt HS.out
    have l3_p1 := blk_lt HF.out
    replace HR := Aside0.mk (blk_later HR.out (.cells #[.int .i64 q.f0, .int .i64 q.f1, .int .i64 q.f2, .bool q.f3] 43))
    replace HS := Aside0.mk (blk_later HS.out (.cells #[.int .i64 q.f0, .int .i64 q.f1, .int .i64 q.f2, .bool q.f3] 43))
    replace HF := Aside0.mk (blk_later HF.out (.cells #[.int .i64 q.f0, .int .i64 q.f1, .int .i64 q.f2, .bool q.f3] 43))
    replace HB := Aside0.mk (below_alloc HB.out (.cells #[.int .i64 q.f0, .int .i64 q.f1, .int .i64 q.f2, .bool q.f3] 43))
    have HQ := Aside0.mk (blk_at (w := wr) (.cells #[.int .i64 q.f0, .int .i64 q.f1, .int .i64 q.f2, .bool q.f3] 43))
    have hsy1 : (wr.alloc (.cells #[.int .i64 q.f0, .int .i64 q.f1, .int .i64 q.f2, .bool q.f3] 43)).heap.size = wr.heap.size + 1 := by simp
    generalize wr.alloc (.cells #[.int .i64 q.f0, .int .i64 q.f1, .int .i64 q.f2, .bool q.f3] 43) = Y1 at *
    generalize wr.heap.size = p1_ at *
    have hn3 := Kd.N_reads' HW.out.n3
    have hn4 := GN_reads HW.out.n4
    refine (outcome_any (P + 1) own base q m0 m1 m2 C3 c3 l3 C4 c4 l4 _ hn3.2.2 hn3.2.1 hn4.2 hn4.1 HW.out.mw hqwf).mono ?_
    rintro e w2 ⟨rfl, hb⟩
    clear hn3 hn4
    replace HW := Aside0.mk (HW.out.below hb)
    replace HR := Aside0.mk (blk_call HR.out hb)
    replace HS := Aside0.mk (blk_call HS.out hb)
    replace HF := Aside0.mk (blk_call HF.out hb)
    replace HQ := Aside0.mk (blk_call HQ.out hb)
    replace HB := Aside0.mk (below_step HB.out hb)
    clear hb
    have infoR : (Tryd.prog.info? 68).map (fun i => (i.zero, i.size, i.bytes)) = some (some (.agg #[.int .i64 0, .bool false, .int .i64 0]), 3, 24) := by kernel_rfl
    by_cases hout : outcomeOf m1 l3 own base q = 0
    · skip
      rw [hout]
      have d3 : ((0 : Int) == 0) = true := rfl
      have d4 : ((0 : Int) != 0) = false := rfl
      obtain ⟨hpl, hm6, hcf⟩ : 0 ≤ placeFrom l3 q.f0 0 ∧ m1 ≠ 1000000 ∧ (q.f3 = true → ¬ (base ≤ (entryOf l3 q).f1 ∧ (entryOf l3 q).f1 ≠ ownAt own q.f0)) := by
        have h9 := hout
        unfold outcomeOf at h9
        split at h9
        · cases h9
        · split at h9
          · cases h9
          · split at h9
            · cases h9
            · rename_i g1 g2 g3
              exact ⟨by omega, g2, fun hr hh => g3 ⟨hr, hh⟩⟩
      obtain ⟨j, hj⟩ : ∃ j : Nat, placeFrom l3 q.f0 0 = j := ⟨(placeFrom l3 q.f0 0).toNat, by omega⟩
      have hjl : j < l3.length := by rcases placeFrom_range l3 q.f0 0 with h | h <;> omega
      have hpf : mailbox_Place.f m0 m1 m2 l3 l4 q.f0 = some (j : Int) := congrArg some hj
      have hent := entry_at hj hjl
      have hmin : mineOf l3 own base q = (decide ((entryOf l3 q).f1 < base) || ((entryOf l3 q).f1 == ownAt own q.f0)) := rfl
      obtain ⟨d0, d1, d2, e3, e4, hd⟩ : ∃ d0 d1 d2 e3 e4, doOf m0 m1 m2 l3 l4 q = (d0, d1, d2, e3, e4) := ⟨_, _, _, _, _, rfl⟩
      have he4 := doOf_gone hd
      have HWF1 := Aside0.mk (doOf_wf HWF.out hd)
      have HMI := Aside0.mk hmin
      have HD := Aside0.mk hd
      have HO := Aside0.mk hout
      have HPL := Aside0.mk hpl
      have HCF := Aside0.mk hcf
      clear hmin hd hout hm6 hcf
      have kHQ := bc0 HQ.out
      have mHQ := bc1 HQ.out
      have nHQ := bc2 HQ.out
      have fHQ := bf0 HQ.out
      have yHQ := blk_lt HQ.out
      have hbs2 : bs ≤ w2.heap.size := Nat.le_trans HW.out.bp (Nat.le_of_lt (blk_lt HW.out.p))
      go_wp2_with (first | ((with_reducible refine gate_builtin (b := .append) (xs := #[.tmp 60, .tmp 67]) rfl ?_); at_builtin; refine Kd.N_append k68 (w0 := w2) bs rfl (.tmp 60) (.tmp 67) 27 68 (.agg #[.int .i64 0, .bool false, .int .i64 0]) 24 rfl Tryd.underlying27 infoR rfl (by decide) (by omega) rv done (⟨q.f0, true, 0⟩ : S68) [.int .i64 q.f0, .bool true, .int .i64 0] (fun k_ => bs ≤ k_) (fun _ => False) rfl rfl (k68_mkF _ _ _) (fun _ hk => hk.elim) (fun k_ hk => Nat.le_trans hbs2 hk) (set_ok HW.out.nr (fun k_ hk => (HW.out.nr.1 k_ hk).1.1)) (Below.refl bs w2) hbs2 (by have := HSZ.out.2.2.1; omega) ?_; intro rv1 w3 hn hb hgr hat; have HN := Aside0.mk hn; have HG := Aside0.mk hgr; have HT := Aside0.mk hat; clear hn hb hgr hat; have HW3 := Aside0.mk (HW.out.append HN.out HG.out HT.out); have HQ3 := Aside0.mk (blk_grown HQ.out HG.out (fun he => by have h9 := HRV.out _ he.symm; omega)); have kP := bc0 HW3.out.p; have hP3 := blk_lt HW3.out.p; have kQ := bc0 HQ3.out; have yQ := blk_lt HQ3.out))
      (try clear kP)
      (try clear hP3)
      (try clear kQ)
      (try clear yQ)
      clear hbs2
      clear kHQ mHQ nHQ fHQ yHQ
      replace HR := Aside0.mk (blk_grown HR.out HG.out (fun he => by have h9 := HRB.out _ he.symm; omega))
      replace HS := Aside0.mk (blk_grown HS.out HG.out (fun he => by have h9 := HRB.out _ he.symm; omega))
      replace HF := Aside0.mk (blk_grown HF.out HG.out (fun he => by have h9 := HRB.out _ he.symm; omega))
      replace HB := Aside0.mk (pw_below_grown HB.out rv.ownBlock (below_size HB.out) HG.out (fun k_ hk_ => by have h9 := HRB.out k_ hk_; omega))
      clear HW HQ
      have HW := HW3
      have HQ := HQ3
      clear HW3 HQ3 HN HG HT
      have hn3 := Kd.N_reads' HW.out.n3
      have hn4 := GN_reads HW.out.n4
      refine (mailbox_Place.calls m0 m1 m2 C3 c3 l3 C4 c4 l4 q.f0 (j : Int) _ hn3.2.2 hn3.2.1 hn4.2 hn4.1 hpf).mono ?_
      rintro e w4 ⟨rfl, hb⟩
      clear hn3 hn4 hpf hpl
      replace HW := Aside0.mk (HW.out.below hb)
      replace HR := Aside0.mk (blk_call HR.out hb)
      replace HS := Aside0.mk (blk_call HS.out hb)
      replace HF := Aside0.mk (blk_call HF.out hb)
      replace HQ := Aside0.mk (blk_call HQ.out hb)
      replace HB := Aside0.mk (below_step HB.out hb)
      clear hb
      obtain ⟨ad3, _, _, _, _, had3, q0, q1, -⟩ := at_T55 (Kd.N_reads' HW.out.n3).2.2 (j : Int) (by omega) (by omega)
      have hrd : rd_T55 l3 (j : Int) = entryOf l3 q := by unfold rd_T55; rw [Int.toNat_natCast, List.getD_eq_getElem?_getD, hent]; rfl
      rw [hrd, Int.toNat_natCast] at q1
      have Q1 := Aside0.mk q1
      subst had3
      clear hrd q0 q1 hent
      generalize entryOf l3 q = x at *
      have j0 : decide (0 ≤ (j : Int)) = true := decide_eq_true (by omega)
      have j1 : decide ((j : Int) < (l3.length : Int)) = true := decide_eq_true (by omega)
      have kP := bc0 HW.out.p
      have kP1 := bc1 HW.out.p
      have hP4 := blk_lt HW.out.p
      have kHQ := bc0 HQ.out
      have mHQ := bc1 HQ.out
      have nHQ := bc2 HQ.out
      have fHQ := bf0 HQ.out
      have yHQ := blk_lt HQ.out
      go_wp2_with fail
      clear kHQ mHQ nHQ fHQ yHQ
      clear kP kP1 hP4
      by_cases cA : x.f1 < base
      · skip
        have d6 : decide (x.f1 < base) = true := decide_eq_true cA
        have hmi : mineOf l3 own base q = true := by rw [HMI.out, d6]; rfl
        refine region_till 21 (fun _ => True) (fun w' : World => w'.cell? ⟨P, 3, none⟩ = some (.slice (some ad3) l3.length c3) ∧ w'.cell? ⟨(ad3.add (j * 6)).block, (ad3.add (j * 6)).off + 1, none⟩ = some (.int .i64 x.f1) ∧ w'.cell? ⟨p1_, 0, none⟩ = some (.int .i64 q.f0) ∧ MW w' (P + 1) own) (by kernel_rfl) ⟨trivial, ⟨bc0 (blk_drew HW.out.p) 3, Q1.out, bc0 (blk_drew HQ.out) 0, HW.out.drew.mw⟩⟩ (fun hTU => ?_)
        replace HR := Aside0.mk (blk_drew HR.out)
        replace HS := Aside0.mk (blk_drew HS.out)
        replace HF := Aside0.mk (blk_drew HF.out)
        replace HQ := Aside0.mk (blk_drew HQ.out)
        replace HB := Aside0.mk (below_drew1 HB.out)
        replace HW := Aside0.mk HW.out.drew
        replace Q1 := Aside0.mk (show w4.drew.cell? _ = _ from Q1.out)
        generalize w4.drew = Y5 at *
        refine till_takeD (i := 0) (v := ?_) (some 75) rfl rfl (by kernel_rfl) (by kernel_rfl) (by kernel_rfl) (by kernel_rfl) (fun _ _ _ h => h) (Or.inl ⟨by rfl, ?_⟩) (by assumption) ?_
        rotate_left
        · (intro w_ hS_; (try dsimp only at hS_); go_simp; try with_reducible rfl)
        try simp only [Act.put, List.setIfInBounds_toArray, List.set_cons_zero, List.set_cons_succ]
        refine till_takeD (i := 1) (v := ?_) (some 76) rfl rfl (by kernel_rfl) (by kernel_rfl) (by kernel_rfl) (by kernel_rfl) (fun _ _ _ h => h) (Or.inl ⟨by rfl, ?_⟩) (by assumption) ?_
        rotate_left
        · (intro w_ hS_; (try dsimp only at hS_); go_simp; try with_reducible rfl)
        try simp only [Act.put, List.setIfInBounds_toArray, List.set_cons_zero, List.set_cons_succ]
        refine till_takeD (i := 2) (v := ?_) (some 77) rfl rfl (by kernel_rfl) (by kernel_rfl) (by kernel_rfl) (by kernel_rfl) (fun _ _ _ h => h) (Or.inl ⟨by rfl, ?_⟩) (by assumption) ?_
        rotate_left
        · (intro w_ hS_; (try dsimp only at hS_); go_simp; try with_reducible rfl)
        try simp only [Act.put, List.setIfInBounds_toArray, List.set_cons_zero, List.set_cons_succ]
        refine till_takeD (i := 3) (v := ?_) (some 78) rfl rfl (by kernel_rfl) (by kernel_rfl) (by kernel_rfl) (by kernel_rfl) (fun _ _ _ h => h) (Or.inl ⟨by rfl, ?_⟩) (by assumption) ?_
        rotate_left
        · (intro w_ hS_; (try dsimp only at hS_); go_simp; try with_reducible rfl)
        try simp only [Act.put, List.setIfInBounds_toArray, List.set_cons_zero, List.set_cons_succ]
        refine till_takeD (i := 4) (v := ?_) (some 79) rfl rfl (by kernel_rfl) (by kernel_rfl) (by kernel_rfl) (by kernel_rfl) (fun _ _ _ h => h) (Or.inl ⟨by rfl, ?_⟩) (by assumption) ?_
        rotate_left
        · (intro w_ hS_; (try dsimp only at hS_); go_simp; try with_reducible rfl)
        try simp only [Act.put, List.setIfInBounds_toArray, List.set_cons_zero, List.set_cons_succ]
        refine till_takeD (i := 5) (v := ?_) (some 80) rfl rfl (by kernel_rfl) (by kernel_rfl) (by kernel_rfl) (by kernel_rfl) (fun _ _ _ h => h) (Or.inl ⟨by rfl, ?_⟩) (by assumption) ?_
        rotate_left
        · (intro w_ hS_; (try dsimp only at hS_); go_simp; try with_reducible rfl)
        try simp only [Act.put, List.setIfInBounds_toArray, List.set_cons_zero, List.set_cons_succ]
        refine till_takeD (i := 6) (v := ?_) (some 81) rfl rfl (by kernel_rfl) (by kernel_rfl) (by kernel_rfl) (by kernel_rfl) (fun _ _ _ h => h) (Or.inl ⟨by rfl, ?_⟩) (by assumption) ?_
        rotate_left
        · (intro w_ hS_; (try dsimp only at hS_); go_simp; try with_reducible rfl)
        try simp only [Act.put, List.setIfInBounds_toArray, List.set_cons_zero, List.set_cons_succ]
        refine till_takeD (i := 7) (v := ?_) (some 82) rfl rfl (by kernel_rfl) (by kernel_rfl) (by kernel_rfl) (by kernel_rfl) (fun _ _ _ h => h) (Or.inl ⟨by rfl, ?_⟩) (by assumption) ?_
        rotate_left
        · (intro w_ hS_; (try dsimp only at hS_); go_simp; try with_reducible rfl)
        try simp only [Act.put, List.setIfInBounds_toArray, List.set_cons_zero, List.set_cons_succ]
        refine till_takeD (i := 8) (v := ?_) (some 83) rfl rfl (by kernel_rfl) (by kernel_rfl) (by kernel_rfl) (by kernel_rfl) (fun _ _ _ h => h) (Or.inl ⟨by rfl, ?_⟩) (by assumption) ?_
        rotate_left
        · (intro w_ hS_; (try dsimp only at hS_); go_simp; try with_reducible rfl)
        try simp only [Act.put, List.setIfInBounds_toArray, List.set_cons_zero, List.set_cons_succ]
        refine till_takeD (i := 9) (v := undef) (some 84) rfl rfl (by kernel_rfl) (by kernel_rfl) (by kernel_rfl) (by kernel_rfl) (fun _ _ _ h => h) (Or.inr ⟨by rfl, rfl⟩) (by assumption) ?_
        try simp only [Act.put, List.setIfInBounds_toArray, List.set_cons_zero, List.set_cons_succ]
        refine till_takeD (i := 10) (v := undef) (some 85) rfl rfl (by kernel_rfl) (by kernel_rfl) (by kernel_rfl) (by kernel_rfl) (fun _ _ _ h => h) (Or.inr ⟨by rfl, rfl⟩) (by assumption) ?_
        try simp only [Act.put, List.setIfInBounds_toArray, List.set_cons_zero, List.set_cons_succ]
        refine till_takeD (i := 11) (v := undef) (some 86) rfl rfl (by kernel_rfl) (by kernel_rfl) (by kernel_rfl) (by kernel_rfl) (fun _ _ _ h => h) (Or.inr ⟨by rfl, rfl⟩) (by assumption) ?_
        try simp only [Act.put, List.setIfInBounds_toArray, List.set_cons_zero, List.set_cons_succ]
        refine till_takeD (i := 12) (v := undef) (some 87) rfl rfl (by kernel_rfl) (by kernel_rfl) (by kernel_rfl) (by kernel_rfl) (fun _ _ _ h => h) (Or.inr ⟨by rfl, rfl⟩) (by assumption) ?_
        try simp only [Act.put, List.setIfInBounds_toArray, List.set_cons_zero, List.set_cons_succ]
        refine till_takeD (i := 13) (v := undef) (some 88) rfl rfl (by kernel_rfl) (by kernel_rfl) (by kernel_rfl) (by kernel_rfl) (fun _ _ _ h => h) (Or.inr ⟨by rfl, rfl⟩) (by assumption) ?_
        try simp only [Act.put, List.setIfInBounds_toArray, List.set_cons_zero, List.set_cons_succ]
        refine till_takeD (i := 14) (v := undef) (some 89) rfl rfl (by kernel_rfl) (by kernel_rfl) (by kernel_rfl) (by kernel_rfl) (fun _ _ _ h => h) (Or.inr ⟨by rfl, rfl⟩) (by assumption) ?_
        try simp only [Act.put, List.setIfInBounds_toArray, List.set_cons_zero, List.set_cons_succ]
        refine till_takeD (i := 15) (v := undef) (some 90) rfl rfl (by kernel_rfl) (by kernel_rfl) (by kernel_rfl) (by kernel_rfl) (fun _ _ _ h => h) (Or.inr ⟨by rfl, rfl⟩) (by assumption) ?_
        try simp only [Act.put, List.setIfInBounds_toArray, List.set_cons_zero, List.set_cons_succ]
        refine till_takeD (i := 16) (v := undef) (some 91) rfl rfl (by kernel_rfl) (by kernel_rfl) (by kernel_rfl) (by kernel_rfl) (fun _ _ _ h => h) (Or.inr ⟨by rfl, rfl⟩) (by assumption) ?_
        try simp only [Act.put, List.setIfInBounds_toArray, List.set_cons_zero, List.set_cons_succ]
        refine till_takeD (i := 17) (v := undef) (some 92) rfl rfl (by kernel_rfl) (by kernel_rfl) (by kernel_rfl) (by kernel_rfl) (fun _ _ _ h => h) (Or.inr ⟨by rfl, rfl⟩) (by assumption) ?_
        try simp only [Act.put, List.setIfInBounds_toArray, List.set_cons_zero, List.set_cons_succ]
        refine till_takeD (i := 18) (v := undef) (some 93) rfl rfl (by kernel_rfl) (by kernel_rfl) (by kernel_rfl) (by kernel_rfl) (fun _ _ _ h => h) (Or.inr ⟨by rfl, rfl⟩) (by assumption) ?_
        try simp only [Act.put, List.setIfInBounds_toArray, List.set_cons_zero, List.set_cons_succ]
        refine till_takeD (i := 19) (v := undef) (some 94) rfl rfl (by kernel_rfl) (by kernel_rfl) (by kernel_rfl) (by kernel_rfl) (fun _ _ _ h => h) (Or.inr ⟨by rfl, rfl⟩) (by assumption) ?_
        try simp only [Act.put, List.setIfInBounds_toArray, List.set_cons_zero, List.set_cons_succ]
        refine till_takeD (i := 20) (v := ?_) (some 95) rfl rfl (by kernel_rfl) (by kernel_rfl) (by kernel_rfl) (by kernel_rfl) (fun _ _ _ h => h) (Or.inl ⟨by rfl, ?_⟩) (by assumption) ?_
        rotate_left
        · (intro w_ hS_; (try dsimp only at hS_); go_simp; try with_reducible rfl)
        try simp only [Act.put, List.setIfInBounds_toArray, List.set_cons_zero, List.set_cons_succ]
        refine till_one (i := 21) (by kernel_rfl) rfl (fun K hK => ?_)
        go_simp
        refine hK.out _ _ trivial (fun _ h => absurd rfl h) (fun _ => ?_)
        clear hK K hTU
        refine till_done (by kernel_rfl) ?_ _
        cases hr : q.f3 with
        | false =>
          rw [hr] at HQ
          have kP := bc0 HW.out.p
          have kP1 := bc1 HW.out.p
          have kP2 := bc2 HW.out.p
          have hP4 := blk_lt HW.out.p
          have kHQ := bc0 HQ.out
          have mHQ := bc1 HQ.out
          have nHQ := bc2 HQ.out
          have fHQ := bf0 HQ.out
          have yHQ := blk_lt HQ.out
          go_wp2_with fail
          clear kHQ mHQ nHQ fHQ yHQ
          clear kP kP1 kP2 hP4
          replace HW := Aside0.mk (HW.out.alloc (.cells #[.int .i64 2, .int .i64 q.f0, .int .i64 q.f1, .int .i64 q.f2, .int .i64 0, .slice none 0 0, .slice none 0 0] 70))
          have l4_p2 := blk_lt HR.out
          have l5_p2 := blk_lt HS.out
          have l6_p2 := blk_lt HF.out
          have l7_p2 := blk_lt HQ.out
          replace HR := Aside0.mk (blk_later HR.out (.cells #[.int .i64 2, .int .i64 q.f0, .int .i64 q.f1, .int .i64 q.f2, .int .i64 0, .slice none 0 0, .slice none 0 0] 70))
          replace HS := Aside0.mk (blk_later HS.out (.cells #[.int .i64 2, .int .i64 q.f0, .int .i64 q.f1, .int .i64 q.f2, .int .i64 0, .slice none 0 0, .slice none 0 0] 70))
          replace HF := Aside0.mk (blk_later HF.out (.cells #[.int .i64 2, .int .i64 q.f0, .int .i64 q.f1, .int .i64 q.f2, .int .i64 0, .slice none 0 0, .slice none 0 0] 70))
          replace HQ := Aside0.mk (blk_later HQ.out (.cells #[.int .i64 2, .int .i64 q.f0, .int .i64 q.f1, .int .i64 q.f2, .int .i64 0, .slice none 0 0, .slice none 0 0] 70))
          replace HB := Aside0.mk (below_alloc HB.out (.cells #[.int .i64 2, .int .i64 q.f0, .int .i64 q.f1, .int .i64 q.f2, .int .i64 0, .slice none 0 0, .slice none 0 0] 70))
          have HC := Aside0.mk (blk_at (w := Y5) (.cells #[.int .i64 2, .int .i64 q.f0, .int .i64 q.f1, .int .i64 q.f2, .int .i64 0, .slice none 0 0, .slice none 0 0] 70))
          have hsy6 : (Y5.alloc (.cells #[.int .i64 2, .int .i64 q.f0, .int .i64 q.f1, .int .i64 q.f2, .int .i64 0, .slice none 0 0, .slice none 0 0] 70)).heap.size = Y5.heap.size + 1 := by simp
          generalize Y5.alloc (.cells #[.int .i64 2, .int .i64 q.f0, .int .i64 q.f1, .int .i64 q.f2, .int .i64 0, .slice none 0 0, .slice none 0 0] 70) = Y6 at *
          generalize Y5.heap.size = p2_ at *
          clear HC
          have hdm : mailbox_Do.m m0 m1 m2 l3 l4 2 q.f0 q.f1 q.f2 0 [] [] = (d0, d1, d2, e3, e4) := by have h9 := HD.out; unfold doOf queuedKind at h9; rw [if_neg (by rw [hr]; simp)] at h9; exact h9
          refine (mailbox_DoS.calls P bs m0 m1 m2 (some ad3) c3 l3 C4 c4 l4 2 q.f0 q.f1 q.f2 0 (fun _ => False) none 0 [] none 0 [] _ (OkM bs P (P + 1) rv1.ownBlock) (fun k hk => ⟨hk.1, hk.2.1⟩) HW.out.fresh HW.out.p HW.out.bp HW.out.n3 HW.out.n4 (fun W' _ => Kd.C_nil _ W') (Nat.le_refl _) (fun W' _ => Kd.C_nil _ W') (Nat.le_refl _) (by decide) HPL.out (by have := HSZ.out.2.1; have := HSZ.out.2.2.1; omega) d0 d1 d2 e3 e4 hdm).mono ?_
          rintro e w9 ⟨u3, u4, rfl, hP9, hN9, hG9, hb9, hk9⟩
          have yq := blk_lt HQ.out
          replace HQ := Aside0.mk ((hk9 p1_ yq (by omega) (fun he => by have h9 := HV3.out _ he.symm; omega) (fun he => by have h9 := HV4.out _ he.symm; omega)).trans HQ.out)
          replace HW := Aside0.mk (HW.out.did hP9 hN9 hG9 hk9)
          replace HR := Aside0.mk ((hb9.block _ (by omega)).trans HR.out)
          replace HS := Aside0.mk ((hb9.block _ (by omega)).trans HS.out)
          replace HF := Aside0.mk ((hb9.block _ (by omega)).trans HF.out)
          replace HB := Aside0.mk (HB.out.trans (below_less hb9 hszb))
          clear hP9 hN9 hG9 hb9 hk9 hdm yq
          by_cases hch : m1 < d1
          · skip
            have d5 : decide (m1 < d1) = true := decide_eq_true hch
            have HCH := Aside0.mk hch
            clear hch
            have hwf1 : (Lit.int .i64 m1).wf = true := HWF.out
            obtain ⟨w10, hmu, hmw, hgm⟩ := MW_put HW.out.mw (by have := HSZ.out.2.2.1; unfold maxLen; omega) hqwf hwf1
            have kP := bc0 HW.out.p
            have hP9 := blk_lt HW.out.p
            have kHQ := bc0 HQ.out
            have mHQ := bc1 HQ.out
            have nHQ := bc2 HQ.out
            have fHQ := bf0 HQ.out
            have yHQ := blk_lt HQ.out
            go_wp2
            clear kP hP9 hmu
            replace HW := Aside0.mk (HW.out.put hmw hgm)
            replace HR := Aside0.mk (blk_grown HR.out hgm (fun he => by have h9 := Option.some.inj he; have h10 := hbP.out; omega))
            replace HS := Aside0.mk (blk_grown HS.out hgm (fun he => by have h9 := Option.some.inj he; have h10 := hbP.out; omega))
            replace HF := Aside0.mk (blk_grown HF.out hgm (fun he => by have h9 := Option.some.inj he; have h10 := hbP.out; omega))
            replace HB := Aside0.mk (pw_below_grown HB.out (some (P + 1)) (below_size HB.out) hgm (fun k_ hk_ => by have h9 := Option.some.inj hk_; have h10 := hbP.out; omega))
            have hon : ownNext m0 m1 m2 l3 l4 own base q = ((q.f0, m1) :: own) := by unfold ownNext; rw [HD.out]; exact if_pos ⟨hmi, hr, HCH.out⟩
            go_roundg (ql.length - (i + 1))
            case measure => have h9 := HLT.out; omega
            case rel => exact ⟨i + 1, d0, d1, d2, u3, e3, u4, e4, rv1, done ++ [⟨q.f0, true, 0⟩], ((q.f0, m1) :: own), by have h9 := HLT.out; omega, by have h9 := HLT.out; omega, by have h9 := HLT.out; have h8 : ql.length ≤ 1000000 := HSZ.out.2.2.1; rw [show wrap64 ((i : Int) + 1) = ((i + 1 : Nat) : Int) from by clear HWF HWF1; unfold wrap64; omega], rfl, HWF1.out, by rw [List.length_append, List.length_singleton]; omega, by (try rw [List.length_cons]); omega, by omega, ⟨mergeAll_is0 HO.out HD.out hon HE1.out⟩, HR, HS, HF, HW, HB⟩
          · skip
            have d5 : decide (m1 < d1) = false := decide_eq_false hch
            have HCH := Aside0.mk hch
            clear hch
            have kP := bc0 HW.out.p
            have hP9 := blk_lt HW.out.p
            have kHQ := bc0 HQ.out
            have mHQ := bc1 HQ.out
            have nHQ := bc2 HQ.out
            have fHQ := bf0 HQ.out
            have yHQ := blk_lt HQ.out
            go_wp2
            have hon : ownNext m0 m1 m2 l3 l4 own base q = own := by unfold ownNext; rw [HD.out]; exact if_neg (fun h => absurd (show m1 < d1 from h.2.2) (by have h9 := HCH.out; omega))
            go_roundg (ql.length - (i + 1))
            case measure => have h9 := HLT.out; omega
            case rel => exact ⟨i + 1, d0, d1, d2, u3, e3, u4, e4, rv1, done ++ [⟨q.f0, true, 0⟩], own, by have h9 := HLT.out; omega, by have h9 := HLT.out; omega, by have h9 := HLT.out; have h8 : ql.length ≤ 1000000 := HSZ.out.2.2.1; rw [show wrap64 ((i : Int) + 1) = ((i + 1 : Nat) : Int) from by clear HWF HWF1; unfold wrap64; omega], rfl, HWF1.out, by rw [List.length_append, List.length_singleton]; omega, by (try rw [List.length_cons]); omega, by omega, ⟨mergeAll_is0 HO.out HD.out hon HE1.out⟩, HR, HS, HF, HW, HB⟩
        | true =>
          rw [hr] at HQ
          have kP := bc0 HW.out.p
          have kP1 := bc1 HW.out.p
          have kP2 := bc2 HW.out.p
          have hP4 := blk_lt HW.out.p
          have kHQ := bc0 HQ.out
          have mHQ := bc1 HQ.out
          have nHQ := bc2 HQ.out
          have fHQ := bf0 HQ.out
          have yHQ := blk_lt HQ.out
          go_wp2_with fail
          clear kHQ mHQ nHQ fHQ yHQ
          clear kP kP1 kP2 hP4
          replace HW := Aside0.mk (HW.out.alloc (.cells #[.int .i64 3, .int .i64 q.f0, .int .i64 q.f1, .int .i64 q.f2, .int .i64 0, .slice none 0 0, .slice none 0 0] 70))
          have l4_p2 := blk_lt HR.out
          have l5_p2 := blk_lt HS.out
          have l6_p2 := blk_lt HF.out
          have l7_p2 := blk_lt HQ.out
          replace HR := Aside0.mk (blk_later HR.out (.cells #[.int .i64 3, .int .i64 q.f0, .int .i64 q.f1, .int .i64 q.f2, .int .i64 0, .slice none 0 0, .slice none 0 0] 70))
          replace HS := Aside0.mk (blk_later HS.out (.cells #[.int .i64 3, .int .i64 q.f0, .int .i64 q.f1, .int .i64 q.f2, .int .i64 0, .slice none 0 0, .slice none 0 0] 70))
          replace HF := Aside0.mk (blk_later HF.out (.cells #[.int .i64 3, .int .i64 q.f0, .int .i64 q.f1, .int .i64 q.f2, .int .i64 0, .slice none 0 0, .slice none 0 0] 70))
          replace HQ := Aside0.mk (blk_later HQ.out (.cells #[.int .i64 3, .int .i64 q.f0, .int .i64 q.f1, .int .i64 q.f2, .int .i64 0, .slice none 0 0, .slice none 0 0] 70))
          replace HB := Aside0.mk (below_alloc HB.out (.cells #[.int .i64 3, .int .i64 q.f0, .int .i64 q.f1, .int .i64 q.f2, .int .i64 0, .slice none 0 0, .slice none 0 0] 70))
          have HC := Aside0.mk (blk_at (w := Y5) (.cells #[.int .i64 3, .int .i64 q.f0, .int .i64 q.f1, .int .i64 q.f2, .int .i64 0, .slice none 0 0, .slice none 0 0] 70))
          have hsy6 : (Y5.alloc (.cells #[.int .i64 3, .int .i64 q.f0, .int .i64 q.f1, .int .i64 q.f2, .int .i64 0, .slice none 0 0, .slice none 0 0] 70)).heap.size = Y5.heap.size + 1 := by simp
          generalize Y5.alloc (.cells #[.int .i64 3, .int .i64 q.f0, .int .i64 q.f1, .int .i64 q.f2, .int .i64 0, .slice none 0 0, .slice none 0 0] 70) = Y6 at *
          generalize Y5.heap.size = p2_ at *
          clear HC
          have hdm : mailbox_Do.m m0 m1 m2 l3 l4 3 q.f0 q.f1 q.f2 0 [] [] = (d0, d1, d2, e3, e4) := by have h9 := HD.out; unfold doOf queuedKind at h9; rw [if_pos hr] at h9; exact h9
          refine (mailbox_DoS.calls P bs m0 m1 m2 (some ad3) c3 l3 C4 c4 l4 3 q.f0 q.f1 q.f2 0 (fun _ => False) none 0 [] none 0 [] _ (OkM bs P (P + 1) rv1.ownBlock) (fun k hk => ⟨hk.1, hk.2.1⟩) HW.out.fresh HW.out.p HW.out.bp HW.out.n3 HW.out.n4 (fun W' _ => Kd.C_nil _ W') (Nat.le_refl _) (fun W' _ => Kd.C_nil _ W') (Nat.le_refl _) (by decide) HPL.out (by have := HSZ.out.2.1; have := HSZ.out.2.2.1; omega) d0 d1 d2 e3 e4 hdm).mono ?_
          rintro e w9 ⟨u3, u4, rfl, hP9, hN9, hG9, hb9, hk9⟩
          have yq := blk_lt HQ.out
          replace HQ := Aside0.mk ((hk9 p1_ yq (by omega) (fun he => by have h9 := HV3.out _ he.symm; omega) (fun he => by have h9 := HV4.out _ he.symm; omega)).trans HQ.out)
          replace HW := Aside0.mk (HW.out.did hP9 hN9 hG9 hk9)
          replace HR := Aside0.mk ((hb9.block _ (by omega)).trans HR.out)
          replace HS := Aside0.mk ((hb9.block _ (by omega)).trans HS.out)
          replace HF := Aside0.mk ((hb9.block _ (by omega)).trans HF.out)
          replace HB := Aside0.mk (HB.out.trans (below_less hb9 hszb))
          clear hP9 hN9 hG9 hb9 hk9 hdm yq
          have kP := bc0 HW.out.p
          have hP9 := blk_lt HW.out.p
          have kHQ := bc0 HQ.out
          have mHQ := bc1 HQ.out
          have nHQ := bc2 HQ.out
          have fHQ := bf0 HQ.out
          have yHQ := blk_lt HQ.out
          go_wp2
          have hon : ownNext m0 m1 m2 l3 l4 own base q = own := by unfold ownNext; rw [HD.out]; exact if_neg (fun h => by have h9 := h.2.1; rw [hr] at h9; cases h9)
          go_roundg (ql.length - (i + 1))
          case measure => have h9 := HLT.out; omega
          case rel => exact ⟨i + 1, d0, d1, d2, u3, e3, u4, e4, rv1, done ++ [⟨q.f0, true, 0⟩], own, by have h9 := HLT.out; omega, by have h9 := HLT.out; omega, by have h9 := HLT.out; have h8 : ql.length ≤ 1000000 := HSZ.out.2.2.1; rw [show wrap64 ((i : Int) + 1) = ((i + 1 : Nat) : Int) from by clear HWF HWF1; unfold wrap64; omega], rfl, HWF1.out, by rw [List.length_append, List.length_singleton]; omega, by (try rw [List.length_cons]); omega, by omega, ⟨mergeAll_is0 HO.out HD.out hon HE1.out⟩, HR, HS, HF, HW, HB⟩
      · skip
        have d6 : decide (x.f1 < base) = false := decide_eq_false cA
        have hmi0 : mineOf l3 own base q = (x.f1 == ownAt own q.f0) := by rw [HMI.out, d6]; rfl
        refine region_till 21 (fun _ => True) (fun w' : World => w'.cell? ⟨P, 3, none⟩ = some (.slice (some ad3) l3.length c3) ∧ w'.cell? ⟨(ad3.add (j * 6)).block, (ad3.add (j * 6)).off + 1, none⟩ = some (.int .i64 x.f1) ∧ w'.cell? ⟨p1_, 0, none⟩ = some (.int .i64 q.f0) ∧ MW w' (P + 1) own) (by kernel_rfl) ⟨trivial, ⟨bc0 (blk_drew HW.out.p) 3, Q1.out, bc0 (blk_drew HQ.out) 0, HW.out.drew.mw⟩⟩ (fun hTU => ?_)
        replace HR := Aside0.mk (blk_drew HR.out)
        replace HS := Aside0.mk (blk_drew HS.out)
        replace HF := Aside0.mk (blk_drew HF.out)
        replace HQ := Aside0.mk (blk_drew HQ.out)
        replace HB := Aside0.mk (below_drew1 HB.out)
        replace HW := Aside0.mk HW.out.drew
        replace Q1 := Aside0.mk (show w4.drew.cell? _ = _ from Q1.out)
        generalize w4.drew = Y5 at *
        refine till_takeD (i := 0) (v := ?_) (some 75) rfl rfl (by kernel_rfl) (by kernel_rfl) (by kernel_rfl) (by kernel_rfl) (fun _ _ _ h => h) (Or.inl ⟨by rfl, ?_⟩) (by assumption) ?_
        rotate_left
        · (intro w_ hS_; (try dsimp only at hS_); go_simp; try with_reducible rfl)
        try simp only [Act.put, List.setIfInBounds_toArray, List.set_cons_zero, List.set_cons_succ]
        refine till_takeD (i := 1) (v := ?_) (some 76) rfl rfl (by kernel_rfl) (by kernel_rfl) (by kernel_rfl) (by kernel_rfl) (fun _ _ _ h => h) (Or.inl ⟨by rfl, ?_⟩) (by assumption) ?_
        rotate_left
        · (intro w_ hS_; (try dsimp only at hS_); go_simp; try with_reducible rfl)
        try simp only [Act.put, List.setIfInBounds_toArray, List.set_cons_zero, List.set_cons_succ]
        refine till_takeD (i := 2) (v := ?_) (some 77) rfl rfl (by kernel_rfl) (by kernel_rfl) (by kernel_rfl) (by kernel_rfl) (fun _ _ _ h => h) (Or.inl ⟨by rfl, ?_⟩) (by assumption) ?_
        rotate_left
        · (intro w_ hS_; (try dsimp only at hS_); go_simp; try with_reducible rfl)
        try simp only [Act.put, List.setIfInBounds_toArray, List.set_cons_zero, List.set_cons_succ]
        refine till_takeD (i := 3) (v := ?_) (some 78) rfl rfl (by kernel_rfl) (by kernel_rfl) (by kernel_rfl) (by kernel_rfl) (fun _ _ _ h => h) (Or.inl ⟨by rfl, ?_⟩) (by assumption) ?_
        rotate_left
        · (intro w_ hS_; (try dsimp only at hS_); go_simp; try with_reducible rfl)
        try simp only [Act.put, List.setIfInBounds_toArray, List.set_cons_zero, List.set_cons_succ]
        refine till_takeD (i := 4) (v := ?_) (some 79) rfl rfl (by kernel_rfl) (by kernel_rfl) (by kernel_rfl) (by kernel_rfl) (fun _ _ _ h => h) (Or.inl ⟨by rfl, ?_⟩) (by assumption) ?_
        rotate_left
        · (intro w_ hS_; (try dsimp only at hS_); go_simp; try with_reducible rfl)
        try simp only [Act.put, List.setIfInBounds_toArray, List.set_cons_zero, List.set_cons_succ]
        refine till_takeD (i := 5) (v := ?_) (some 80) rfl rfl (by kernel_rfl) (by kernel_rfl) (by kernel_rfl) (by kernel_rfl) (fun _ _ _ h => h) (Or.inl ⟨by rfl, ?_⟩) (by assumption) ?_
        rotate_left
        · (intro w_ hS_; (try dsimp only at hS_); go_simp; try with_reducible rfl)
        try simp only [Act.put, List.setIfInBounds_toArray, List.set_cons_zero, List.set_cons_succ]
        refine till_takeD (i := 6) (v := ?_) (some 81) rfl rfl (by kernel_rfl) (by kernel_rfl) (by kernel_rfl) (by kernel_rfl) (fun _ _ _ h => h) (Or.inl ⟨by rfl, ?_⟩) (by assumption) ?_
        rotate_left
        · (intro w_ hS_; (try dsimp only at hS_); go_simp; try with_reducible rfl)
        try simp only [Act.put, List.setIfInBounds_toArray, List.set_cons_zero, List.set_cons_succ]
        refine till_takeD (i := 7) (v := ?_) (some 82) rfl rfl (by kernel_rfl) (by kernel_rfl) (by kernel_rfl) (by kernel_rfl) (fun _ _ _ h => h) (Or.inl ⟨by rfl, ?_⟩) (by assumption) ?_
        rotate_left
        · (intro w_ hS_; (try dsimp only at hS_); go_simp; try with_reducible rfl)
        try simp only [Act.put, List.setIfInBounds_toArray, List.set_cons_zero, List.set_cons_succ]
        refine till_takeD (i := 8) (v := ?_) (some 83) rfl rfl (by kernel_rfl) (by kernel_rfl) (by kernel_rfl) (by kernel_rfl) (fun _ _ _ h => h) (Or.inl ⟨by rfl, ?_⟩) (by assumption) ?_
        rotate_left
        · (intro w_ hS_; (try dsimp only at hS_); go_simp; try with_reducible rfl)
        try simp only [Act.put, List.setIfInBounds_toArray, List.set_cons_zero, List.set_cons_succ]
        refine till_takeD (i := 9) (v := ?_) (some 84) rfl rfl (by kernel_rfl) (by kernel_rfl) (by kernel_rfl) (by kernel_rfl) (fun _ _ _ h => h) (Or.inl ⟨by rfl, ?_⟩) (by assumption) ?_
        rotate_left
        · (intro w_ hS_; (try dsimp only at hS_); go_simp; try with_reducible rfl)
        try simp only [Act.put, List.setIfInBounds_toArray, List.set_cons_zero, List.set_cons_succ]
        refine till_takeD (i := 10) (v := ?_) (some 85) rfl rfl (by kernel_rfl) (by kernel_rfl) (by kernel_rfl) (by kernel_rfl) (fun _ _ _ h => h) (Or.inl ⟨by rfl, ?_⟩) (by assumption) ?_
        rotate_left
        · (intro w_ hS_; (try dsimp only at hS_); go_simp; try with_reducible rfl)
        try simp only [Act.put, List.setIfInBounds_toArray, List.set_cons_zero, List.set_cons_succ]
        refine till_takeD (i := 11) (v := ?_) (some 86) rfl rfl (by kernel_rfl) (by kernel_rfl) (by kernel_rfl) (by kernel_rfl) (fun _ _ _ h => h) (Or.inl ⟨by rfl, ?_⟩) (by assumption) ?_
        rotate_left
        · (intro w_ hS_; (try dsimp only at hS_); go_simp; try with_reducible rfl)
        try simp only [Act.put, List.setIfInBounds_toArray, List.set_cons_zero, List.set_cons_succ]
        refine till_takeD (i := 12) (v := ?_) (some 87) rfl rfl (by kernel_rfl) (by kernel_rfl) (by kernel_rfl) (by kernel_rfl) (fun _ _ _ h => h) (Or.inl ⟨by rfl, ?_⟩) (by assumption) ?_
        rotate_left
        · (intro w_ hS_; (try dsimp only at hS_); go_simp; try with_reducible rfl)
        try simp only [Act.put, List.setIfInBounds_toArray, List.set_cons_zero, List.set_cons_succ]
        refine till_takeD (i := 13) (v := ?_) (some 88) rfl rfl (by kernel_rfl) (by kernel_rfl) (by kernel_rfl) (by kernel_rfl) (fun _ _ _ h => h) (Or.inl ⟨by rfl, ?_⟩) (by assumption) ?_
        rotate_left
        · (intro w_ hS_; (try dsimp only at hS_); go_simp; try with_reducible rfl)
        try simp only [Act.put, List.setIfInBounds_toArray, List.set_cons_zero, List.set_cons_succ]
        refine till_takeD (i := 14) (v := ?_) (some 89) rfl rfl (by kernel_rfl) (by kernel_rfl) (by kernel_rfl) (by kernel_rfl) (fun _ _ _ h => h) (Or.inl ⟨by rfl, ?_⟩) (by assumption) ?_
        rotate_left
        · (intro w_ hS_; (try dsimp only at hS_); go_simp; try with_reducible rfl)
        try simp only [Act.put, List.setIfInBounds_toArray, List.set_cons_zero, List.set_cons_succ]
        refine till_takeD (i := 15) (v := ?_) (some 90) rfl rfl (by kernel_rfl) (by kernel_rfl) (by kernel_rfl) (by kernel_rfl) (fun _ _ _ h => h) (Or.inl ⟨by rfl, ?_⟩) (by assumption) ?_
        rotate_left
        · (intro w_ hS_; (try dsimp only at hS_); go_simp; try with_reducible rfl)
        try simp only [Act.put, List.setIfInBounds_toArray, List.set_cons_zero, List.set_cons_succ]
        refine till_takeD (i := 16) (v := ?_) (some 91) rfl rfl (by kernel_rfl) (by kernel_rfl) (by kernel_rfl) (by kernel_rfl) (fun _ _ _ h => h) (Or.inl ⟨by rfl, ?_⟩) (by assumption) ?_
        rotate_left
        · (intro w_ hS_; (try dsimp only at hS_); go_simp; try with_reducible rfl)
        try simp only [Act.put, List.setIfInBounds_toArray, List.set_cons_zero, List.set_cons_succ]
        refine till_takeD (i := 17) (v := ?_) (some 92) rfl rfl (by kernel_rfl) (by kernel_rfl) (by kernel_rfl) (by kernel_rfl) (fun _ _ _ h => h) (Or.inl ⟨by rfl, ?_⟩) (by assumption) ?_
        rotate_left
        · (intro w_ hS_; (try dsimp only at hS_); go_simp; try with_reducible rfl)
        try simp only [Act.put, List.setIfInBounds_toArray, List.set_cons_zero, List.set_cons_succ]
        refine till_takeD (i := 18) (v := ?_) (some 93) rfl rfl (by kernel_rfl) (by kernel_rfl) (by kernel_rfl) (by kernel_rfl) (fun _ _ _ h => h) (Or.inl ⟨by rfl, ?_⟩) (by assumption) ?_
        rotate_left
        · (intro w_ hS_; (try dsimp only at hS_); go_simp; rw [MW_look hS_.2.2.2.2 hqwf]; rfl)
        try simp only [Act.put, List.setIfInBounds_toArray, List.set_cons_zero, List.set_cons_succ]
        refine till_takeD (i := 19) (v := ?_) (some 94) rfl rfl (by kernel_rfl) (by kernel_rfl) (by kernel_rfl) (by kernel_rfl) (fun _ _ _ h => h) (Or.inl ⟨by rfl, ?_⟩) (by assumption) ?_
        rotate_left
        · (intro w_ hS_; (try dsimp only at hS_); go_simp; try with_reducible rfl)
        try simp only [Act.put, List.setIfInBounds_toArray, List.set_cons_zero, List.set_cons_succ]
        refine till_takeD (i := 20) (v := ?_) (some 95) rfl rfl (by kernel_rfl) (by kernel_rfl) (by kernel_rfl) (by kernel_rfl) (fun _ _ _ h => h) (Or.inl ⟨by rfl, ?_⟩) (by assumption) ?_
        rotate_left
        · (intro w_ hS_; (try dsimp only at hS_); go_simp; try with_reducible rfl)
        try simp only [Act.put, List.setIfInBounds_toArray, List.set_cons_zero, List.set_cons_succ]
        refine till_one (i := 21) (by kernel_rfl) rfl (fun K hK => ?_)
        go_simp
        refine hK.out _ _ trivial (fun _ h => absurd rfl h) (fun _ => ?_)
        clear hK K hTU
        refine till_done (by kernel_rfl) ?_ _
        cases hmb : (x.f1 == ownAt own q.f0) with
        | false =>
          have hmi := hmi0.trans hmb
          have hr : q.f3 = false := by
            cases hr : q.f3 with
            | false => rfl
            | true => exact absurd ⟨by omega, beq_eq_false_iff_ne.1 hmb⟩ (HCF.out hr)
          rw [hr] at HQ
          have kP := bc0 HW.out.p
          have kP1 := bc1 HW.out.p
          have kP2 := bc2 HW.out.p
          have hP4 := blk_lt HW.out.p
          have kHQ := bc0 HQ.out
          have mHQ := bc1 HQ.out
          have nHQ := bc2 HQ.out
          have fHQ := bf0 HQ.out
          have yHQ := blk_lt HQ.out
          go_wp2_with fail
          clear kHQ mHQ nHQ fHQ yHQ
          clear kP kP1 kP2 hP4
          replace HW := Aside0.mk (HW.out.alloc (.cells #[.int .i64 2, .int .i64 q.f0, .int .i64 q.f1, .int .i64 q.f2, .int .i64 0, .slice none 0 0, .slice none 0 0] 70))
          have l4_p2 := blk_lt HR.out
          have l5_p2 := blk_lt HS.out
          have l6_p2 := blk_lt HF.out
          have l7_p2 := blk_lt HQ.out
          replace HR := Aside0.mk (blk_later HR.out (.cells #[.int .i64 2, .int .i64 q.f0, .int .i64 q.f1, .int .i64 q.f2, .int .i64 0, .slice none 0 0, .slice none 0 0] 70))
          replace HS := Aside0.mk (blk_later HS.out (.cells #[.int .i64 2, .int .i64 q.f0, .int .i64 q.f1, .int .i64 q.f2, .int .i64 0, .slice none 0 0, .slice none 0 0] 70))
          replace HF := Aside0.mk (blk_later HF.out (.cells #[.int .i64 2, .int .i64 q.f0, .int .i64 q.f1, .int .i64 q.f2, .int .i64 0, .slice none 0 0, .slice none 0 0] 70))
          replace HQ := Aside0.mk (blk_later HQ.out (.cells #[.int .i64 2, .int .i64 q.f0, .int .i64 q.f1, .int .i64 q.f2, .int .i64 0, .slice none 0 0, .slice none 0 0] 70))
          replace HB := Aside0.mk (below_alloc HB.out (.cells #[.int .i64 2, .int .i64 q.f0, .int .i64 q.f1, .int .i64 q.f2, .int .i64 0, .slice none 0 0, .slice none 0 0] 70))
          have HC := Aside0.mk (blk_at (w := Y5) (.cells #[.int .i64 2, .int .i64 q.f0, .int .i64 q.f1, .int .i64 q.f2, .int .i64 0, .slice none 0 0, .slice none 0 0] 70))
          have hsy6 : (Y5.alloc (.cells #[.int .i64 2, .int .i64 q.f0, .int .i64 q.f1, .int .i64 q.f2, .int .i64 0, .slice none 0 0, .slice none 0 0] 70)).heap.size = Y5.heap.size + 1 := by simp
          generalize Y5.alloc (.cells #[.int .i64 2, .int .i64 q.f0, .int .i64 q.f1, .int .i64 q.f2, .int .i64 0, .slice none 0 0, .slice none 0 0] 70) = Y6 at *
          generalize Y5.heap.size = p2_ at *
          clear HC
          have hdm : mailbox_Do.m m0 m1 m2 l3 l4 2 q.f0 q.f1 q.f2 0 [] [] = (d0, d1, d2, e3, e4) := by have h9 := HD.out; unfold doOf queuedKind at h9; rw [if_neg (by rw [hr]; simp)] at h9; exact h9
          refine (mailbox_DoS.calls P bs m0 m1 m2 (some ad3) c3 l3 C4 c4 l4 2 q.f0 q.f1 q.f2 0 (fun _ => False) none 0 [] none 0 [] _ (OkM bs P (P + 1) rv1.ownBlock) (fun k hk => ⟨hk.1, hk.2.1⟩) HW.out.fresh HW.out.p HW.out.bp HW.out.n3 HW.out.n4 (fun W' _ => Kd.C_nil _ W') (Nat.le_refl _) (fun W' _ => Kd.C_nil _ W') (Nat.le_refl _) (by decide) HPL.out (by have := HSZ.out.2.1; have := HSZ.out.2.2.1; omega) d0 d1 d2 e3 e4 hdm).mono ?_
          rintro e w9 ⟨u3, u4, rfl, hP9, hN9, hG9, hb9, hk9⟩
          have yq := blk_lt HQ.out
          replace HQ := Aside0.mk ((hk9 p1_ yq (by omega) (fun he => by have h9 := HV3.out _ he.symm; omega) (fun he => by have h9 := HV4.out _ he.symm; omega)).trans HQ.out)
          replace HW := Aside0.mk (HW.out.did hP9 hN9 hG9 hk9)
          replace HR := Aside0.mk ((hb9.block _ (by omega)).trans HR.out)
          replace HS := Aside0.mk ((hb9.block _ (by omega)).trans HS.out)
          replace HF := Aside0.mk ((hb9.block _ (by omega)).trans HF.out)
          replace HB := Aside0.mk (HB.out.trans (below_less hb9 hszb))
          clear hP9 hN9 hG9 hb9 hk9 hdm yq
          have kP := bc0 HW.out.p
          have hP9 := blk_lt HW.out.p
          have kHQ := bc0 HQ.out
          have mHQ := bc1 HQ.out
          have nHQ := bc2 HQ.out
          have fHQ := bf0 HQ.out
          have yHQ := blk_lt HQ.out
          go_wp2
          have hon : ownNext m0 m1 m2 l3 l4 own base q = own := by unfold ownNext; rw [HD.out]; exact if_neg (fun h => by have h9 := h.1; rw [hmi] at h9; cases h9)
          go_roundg (ql.length - (i + 1))
          case measure => have h9 := HLT.out; omega
          case rel => exact ⟨i + 1, d0, d1, d2, u3, e3, u4, e4, rv1, done ++ [⟨q.f0, true, 0⟩], own, by have h9 := HLT.out; omega, by have h9 := HLT.out; omega, by have h9 := HLT.out; have h8 : ql.length ≤ 1000000 := HSZ.out.2.2.1; rw [show wrap64 ((i : Int) + 1) = ((i + 1 : Nat) : Int) from by clear HWF HWF1; unfold wrap64; omega], rfl, HWF1.out, by rw [List.length_append, List.length_singleton]; omega, by (try rw [List.length_cons]); omega, by omega, ⟨mergeAll_is0 HO.out HD.out hon HE1.out⟩, HR, HS, HF, HW, HB⟩
        | true =>
          have hmi := hmi0.trans hmb
          cases hr : q.f3 with
          | false =>
            rw [hr] at HQ
            have kP := bc0 HW.out.p
            have kP1 := bc1 HW.out.p
            have kP2 := bc2 HW.out.p
            have hP4 := blk_lt HW.out.p
            have kHQ := bc0 HQ.out
            have mHQ := bc1 HQ.out
            have nHQ := bc2 HQ.out
            have fHQ := bf0 HQ.out
            have yHQ := blk_lt HQ.out
            go_wp2_with fail
            clear kHQ mHQ nHQ fHQ yHQ
            clear kP kP1 kP2 hP4
            replace HW := Aside0.mk (HW.out.alloc (.cells #[.int .i64 2, .int .i64 q.f0, .int .i64 q.f1, .int .i64 q.f2, .int .i64 0, .slice none 0 0, .slice none 0 0] 70))
            have l4_p2 := blk_lt HR.out
            have l5_p2 := blk_lt HS.out
            have l6_p2 := blk_lt HF.out
            have l7_p2 := blk_lt HQ.out
            replace HR := Aside0.mk (blk_later HR.out (.cells #[.int .i64 2, .int .i64 q.f0, .int .i64 q.f1, .int .i64 q.f2, .int .i64 0, .slice none 0 0, .slice none 0 0] 70))
            replace HS := Aside0.mk (blk_later HS.out (.cells #[.int .i64 2, .int .i64 q.f0, .int .i64 q.f1, .int .i64 q.f2, .int .i64 0, .slice none 0 0, .slice none 0 0] 70))
            replace HF := Aside0.mk (blk_later HF.out (.cells #[.int .i64 2, .int .i64 q.f0, .int .i64 q.f1, .int .i64 q.f2, .int .i64 0, .slice none 0 0, .slice none 0 0] 70))
            replace HQ := Aside0.mk (blk_later HQ.out (.cells #[.int .i64 2, .int .i64 q.f0, .int .i64 q.f1, .int .i64 q.f2, .int .i64 0, .slice none 0 0, .slice none 0 0] 70))
            replace HB := Aside0.mk (below_alloc HB.out (.cells #[.int .i64 2, .int .i64 q.f0, .int .i64 q.f1, .int .i64 q.f2, .int .i64 0, .slice none 0 0, .slice none 0 0] 70))
            have HC := Aside0.mk (blk_at (w := Y5) (.cells #[.int .i64 2, .int .i64 q.f0, .int .i64 q.f1, .int .i64 q.f2, .int .i64 0, .slice none 0 0, .slice none 0 0] 70))
            have hsy6 : (Y5.alloc (.cells #[.int .i64 2, .int .i64 q.f0, .int .i64 q.f1, .int .i64 q.f2, .int .i64 0, .slice none 0 0, .slice none 0 0] 70)).heap.size = Y5.heap.size + 1 := by simp
            generalize Y5.alloc (.cells #[.int .i64 2, .int .i64 q.f0, .int .i64 q.f1, .int .i64 q.f2, .int .i64 0, .slice none 0 0, .slice none 0 0] 70) = Y6 at *
            generalize Y5.heap.size = p2_ at *
            clear HC
            have hdm : mailbox_Do.m m0 m1 m2 l3 l4 2 q.f0 q.f1 q.f2 0 [] [] = (d0, d1, d2, e3, e4) := by have h9 := HD.out; unfold doOf queuedKind at h9; rw [if_neg (by rw [hr]; simp)] at h9; exact h9
            refine (mailbox_DoS.calls P bs m0 m1 m2 (some ad3) c3 l3 C4 c4 l4 2 q.f0 q.f1 q.f2 0 (fun _ => False) none 0 [] none 0 [] _ (OkM bs P (P + 1) rv1.ownBlock) (fun k hk => ⟨hk.1, hk.2.1⟩) HW.out.fresh HW.out.p HW.out.bp HW.out.n3 HW.out.n4 (fun W' _ => Kd.C_nil _ W') (Nat.le_refl _) (fun W' _ => Kd.C_nil _ W') (Nat.le_refl _) (by decide) HPL.out (by have := HSZ.out.2.1; have := HSZ.out.2.2.1; omega) d0 d1 d2 e3 e4 hdm).mono ?_
            rintro e w9 ⟨u3, u4, rfl, hP9, hN9, hG9, hb9, hk9⟩
            have yq := blk_lt HQ.out
            replace HQ := Aside0.mk ((hk9 p1_ yq (by omega) (fun he => by have h9 := HV3.out _ he.symm; omega) (fun he => by have h9 := HV4.out _ he.symm; omega)).trans HQ.out)
            replace HW := Aside0.mk (HW.out.did hP9 hN9 hG9 hk9)
            replace HR := Aside0.mk ((hb9.block _ (by omega)).trans HR.out)
            replace HS := Aside0.mk ((hb9.block _ (by omega)).trans HS.out)
            replace HF := Aside0.mk ((hb9.block _ (by omega)).trans HF.out)
            replace HB := Aside0.mk (HB.out.trans (below_less hb9 hszb))
            clear hP9 hN9 hG9 hb9 hk9 hdm yq
            by_cases hch : m1 < d1
            · skip
              have d5 : decide (m1 < d1) = true := decide_eq_true hch
              have HCH := Aside0.mk hch
              clear hch
              have hwf1 : (Lit.int .i64 m1).wf = true := HWF.out
              obtain ⟨w10, hmu, hmw, hgm⟩ := MW_put HW.out.mw (by have := HSZ.out.2.2.1; unfold maxLen; omega) hqwf hwf1
              have kP := bc0 HW.out.p
              have hP9 := blk_lt HW.out.p
              have kHQ := bc0 HQ.out
              have mHQ := bc1 HQ.out
              have nHQ := bc2 HQ.out
              have fHQ := bf0 HQ.out
              have yHQ := blk_lt HQ.out
              go_wp2
              clear kP hP9 hmu
              replace HW := Aside0.mk (HW.out.put hmw hgm)
              replace HR := Aside0.mk (blk_grown HR.out hgm (fun he => by have h9 := Option.some.inj he; have h10 := hbP.out; omega))
              replace HS := Aside0.mk (blk_grown HS.out hgm (fun he => by have h9 := Option.some.inj he; have h10 := hbP.out; omega))
              replace HF := Aside0.mk (blk_grown HF.out hgm (fun he => by have h9 := Option.some.inj he; have h10 := hbP.out; omega))
              replace HB := Aside0.mk (pw_below_grown HB.out (some (P + 1)) (below_size HB.out) hgm (fun k_ hk_ => by have h9 := Option.some.inj hk_; have h10 := hbP.out; omega))
              have hon : ownNext m0 m1 m2 l3 l4 own base q = ((q.f0, m1) :: own) := by unfold ownNext; rw [HD.out]; exact if_pos ⟨hmi, hr, HCH.out⟩
              go_roundg (ql.length - (i + 1))
              case measure => have h9 := HLT.out; omega
              case rel => exact ⟨i + 1, d0, d1, d2, u3, e3, u4, e4, rv1, done ++ [⟨q.f0, true, 0⟩], ((q.f0, m1) :: own), by have h9 := HLT.out; omega, by have h9 := HLT.out; omega, by have h9 := HLT.out; have h8 : ql.length ≤ 1000000 := HSZ.out.2.2.1; rw [show wrap64 ((i : Int) + 1) = ((i + 1 : Nat) : Int) from by clear HWF HWF1; unfold wrap64; omega], rfl, HWF1.out, by rw [List.length_append, List.length_singleton]; omega, by (try rw [List.length_cons]); omega, by omega, ⟨mergeAll_is0 HO.out HD.out hon HE1.out⟩, HR, HS, HF, HW, HB⟩
            · skip
              have d5 : decide (m1 < d1) = false := decide_eq_false hch
              have HCH := Aside0.mk hch
              clear hch
              have kP := bc0 HW.out.p
              have hP9 := blk_lt HW.out.p
              have kHQ := bc0 HQ.out
              have mHQ := bc1 HQ.out
              have nHQ := bc2 HQ.out
              have fHQ := bf0 HQ.out
              have yHQ := blk_lt HQ.out
              go_wp2
              have hon : ownNext m0 m1 m2 l3 l4 own base q = own := by unfold ownNext; rw [HD.out]; exact if_neg (fun h => absurd (show m1 < d1 from h.2.2) (by have h9 := HCH.out; omega))
              go_roundg (ql.length - (i + 1))
              case measure => have h9 := HLT.out; omega
              case rel => exact ⟨i + 1, d0, d1, d2, u3, e3, u4, e4, rv1, done ++ [⟨q.f0, true, 0⟩], own, by have h9 := HLT.out; omega, by have h9 := HLT.out; omega, by have h9 := HLT.out; have h8 : ql.length ≤ 1000000 := HSZ.out.2.2.1; rw [show wrap64 ((i : Int) + 1) = ((i + 1 : Nat) : Int) from by clear HWF HWF1; unfold wrap64; omega], rfl, HWF1.out, by rw [List.length_append, List.length_singleton]; omega, by (try rw [List.length_cons]); omega, by omega, ⟨mergeAll_is0 HO.out HD.out hon HE1.out⟩, HR, HS, HF, HW, HB⟩
          | true =>
            rw [hr] at HQ
            have kP := bc0 HW.out.p
            have kP1 := bc1 HW.out.p
            have kP2 := bc2 HW.out.p
            have hP4 := blk_lt HW.out.p
            have kHQ := bc0 HQ.out
            have mHQ := bc1 HQ.out
            have nHQ := bc2 HQ.out
            have fHQ := bf0 HQ.out
            have yHQ := blk_lt HQ.out
            go_wp2_with fail
            clear kHQ mHQ nHQ fHQ yHQ
            clear kP kP1 kP2 hP4
            replace HW := Aside0.mk (HW.out.alloc (.cells #[.int .i64 3, .int .i64 q.f0, .int .i64 q.f1, .int .i64 q.f2, .int .i64 0, .slice none 0 0, .slice none 0 0] 70))
            have l4_p2 := blk_lt HR.out
            have l5_p2 := blk_lt HS.out
            have l6_p2 := blk_lt HF.out
            have l7_p2 := blk_lt HQ.out
            replace HR := Aside0.mk (blk_later HR.out (.cells #[.int .i64 3, .int .i64 q.f0, .int .i64 q.f1, .int .i64 q.f2, .int .i64 0, .slice none 0 0, .slice none 0 0] 70))
            replace HS := Aside0.mk (blk_later HS.out (.cells #[.int .i64 3, .int .i64 q.f0, .int .i64 q.f1, .int .i64 q.f2, .int .i64 0, .slice none 0 0, .slice none 0 0] 70))
            replace HF := Aside0.mk (blk_later HF.out (.cells #[.int .i64 3, .int .i64 q.f0, .int .i64 q.f1, .int .i64 q.f2, .int .i64 0, .slice none 0 0, .slice none 0 0] 70))
            replace HQ := Aside0.mk (blk_later HQ.out (.cells #[.int .i64 3, .int .i64 q.f0, .int .i64 q.f1, .int .i64 q.f2, .int .i64 0, .slice none 0 0, .slice none 0 0] 70))
            replace HB := Aside0.mk (below_alloc HB.out (.cells #[.int .i64 3, .int .i64 q.f0, .int .i64 q.f1, .int .i64 q.f2, .int .i64 0, .slice none 0 0, .slice none 0 0] 70))
            have HC := Aside0.mk (blk_at (w := Y5) (.cells #[.int .i64 3, .int .i64 q.f0, .int .i64 q.f1, .int .i64 q.f2, .int .i64 0, .slice none 0 0, .slice none 0 0] 70))
            have hsy6 : (Y5.alloc (.cells #[.int .i64 3, .int .i64 q.f0, .int .i64 q.f1, .int .i64 q.f2, .int .i64 0, .slice none 0 0, .slice none 0 0] 70)).heap.size = Y5.heap.size + 1 := by simp
            generalize Y5.alloc (.cells #[.int .i64 3, .int .i64 q.f0, .int .i64 q.f1, .int .i64 q.f2, .int .i64 0, .slice none 0 0, .slice none 0 0] 70) = Y6 at *
            generalize Y5.heap.size = p2_ at *
            clear HC
            have hdm : mailbox_Do.m m0 m1 m2 l3 l4 3 q.f0 q.f1 q.f2 0 [] [] = (d0, d1, d2, e3, e4) := by have h9 := HD.out; unfold doOf queuedKind at h9; rw [if_pos hr] at h9; exact h9
            refine (mailbox_DoS.calls P bs m0 m1 m2 (some ad3) c3 l3 C4 c4 l4 3 q.f0 q.f1 q.f2 0 (fun _ => False) none 0 [] none 0 [] _ (OkM bs P (P + 1) rv1.ownBlock) (fun k hk => ⟨hk.1, hk.2.1⟩) HW.out.fresh HW.out.p HW.out.bp HW.out.n3 HW.out.n4 (fun W' _ => Kd.C_nil _ W') (Nat.le_refl _) (fun W' _ => Kd.C_nil _ W') (Nat.le_refl _) (by decide) HPL.out (by have := HSZ.out.2.1; have := HSZ.out.2.2.1; omega) d0 d1 d2 e3 e4 hdm).mono ?_
            rintro e w9 ⟨u3, u4, rfl, hP9, hN9, hG9, hb9, hk9⟩
            have yq := blk_lt HQ.out
            replace HQ := Aside0.mk ((hk9 p1_ yq (by omega) (fun he => by have h9 := HV3.out _ he.symm; omega) (fun he => by have h9 := HV4.out _ he.symm; omega)).trans HQ.out)
            replace HW := Aside0.mk (HW.out.did hP9 hN9 hG9 hk9)
            replace HR := Aside0.mk ((hb9.block _ (by omega)).trans HR.out)
            replace HS := Aside0.mk ((hb9.block _ (by omega)).trans HS.out)
            replace HF := Aside0.mk ((hb9.block _ (by omega)).trans HF.out)
            replace HB := Aside0.mk (HB.out.trans (below_less hb9 hszb))
            clear hP9 hN9 hG9 hb9 hk9 hdm yq
            have kP := bc0 HW.out.p
            have hP9 := blk_lt HW.out.p
            have kHQ := bc0 HQ.out
            have mHQ := bc1 HQ.out
            have nHQ := bc2 HQ.out
            have fHQ := bf0 HQ.out
            have yHQ := blk_lt HQ.out
            go_wp2
            have hon : ownNext m0 m1 m2 l3 l4 own base q = own := by unfold ownNext; rw [HD.out]; exact if_neg (fun h => by have h9 := h.2.1; rw [hr] at h9; cases h9)
            go_roundg (ql.length - (i + 1))
            case measure => have h9 := HLT.out; omega
            case rel => exact ⟨i + 1, d0, d1, d2, u3, e3, u4, e4, rv1, done ++ [⟨q.f0, true, 0⟩], own, by have h9 := HLT.out; omega, by have h9 := HLT.out; omega, by have h9 := HLT.out; have h8 : ql.length ≤ 1000000 := HSZ.out.2.2.1; rw [show wrap64 ((i : Int) + 1) = ((i + 1 : Nat) : Int) from by clear HWF HWF1; unfold wrap64; omega], rfl, HWF1.out, by rw [List.length_append, List.length_singleton]; omega, by (try rw [List.length_cons]); omega, by omega, ⟨mergeAll_is0 HO.out HD.out hon HE1.out⟩, HR, HS, HF, HW, HB⟩
    · skip
      have d3 : (outcomeOf m1 l3 own base q == 0) = false := beq_eq_false_iff_ne.2 hout
      have d4 : (outcomeOf m1 l3 own base q != 0) = true := bne_iff_ne.2 hout
      have HE2 := Aside0.mk (mergeAll_is1 hout HE1.out)
      clear hout HE1
      have HWF1 := HWF
      generalize outcomeOf m1 l3 own base q = y at *
      have kHQ := bc0 HQ.out
      have mHQ := bc1 HQ.out
      have nHQ := bc2 HQ.out
      have fHQ := bf0 HQ.out
      have yHQ := blk_lt HQ.out
      have hbs2 : bs ≤ w2.heap.size := Nat.le_trans HW.out.bp (Nat.le_of_lt (blk_lt HW.out.p))
      go_wp2_with (first | ((with_reducible refine gate_builtin (b := .append) (xs := #[.tmp 60, .tmp 67]) rfl ?_); at_builtin; refine Kd.N_append k68 (w0 := w2) bs rfl (.tmp 60) (.tmp 67) 27 68 (.agg #[.int .i64 0, .bool false, .int .i64 0]) 24 rfl Tryd.underlying27 infoR rfl (by decide) (by omega) rv done (⟨q.f0, false, y⟩ : S68) [.int .i64 q.f0, .bool false, .int .i64 y] (fun k_ => bs ≤ k_) (fun _ => False) rfl rfl (k68_mkF _ _ _) (fun _ hk => hk.elim) (fun k_ hk => Nat.le_trans hbs2 hk) (set_ok HW.out.nr (fun k_ hk => (HW.out.nr.1 k_ hk).1.1)) (Below.refl bs w2) hbs2 (by have := HSZ.out.2.2.1; omega) ?_; intro rv1 w3 hn hb hgr hat; have HN := Aside0.mk hn; have HG := Aside0.mk hgr; have HT := Aside0.mk hat; clear hn hb hgr hat; have HW3 := Aside0.mk (HW.out.append HN.out HG.out HT.out); have HQ3 := Aside0.mk (blk_grown HQ.out HG.out (fun he => by have h9 := HRV.out _ he.symm; omega)); have kP := bc0 HW3.out.p; have hP3 := blk_lt HW3.out.p; have kQ := bc0 HQ3.out; have yQ := blk_lt HQ3.out))
      (try clear kP)
      (try clear hP3)
      (try clear kQ)
      (try clear yQ)
      clear hbs2
      clear kHQ mHQ nHQ fHQ yHQ
      replace HR := Aside0.mk (blk_grown HR.out HG.out (fun he => by have h9 := HRB.out _ he.symm; omega))
      replace HS := Aside0.mk (blk_grown HS.out HG.out (fun he => by have h9 := HRB.out _ he.symm; omega))
      replace HF := Aside0.mk (blk_grown HF.out HG.out (fun he => by have h9 := HRB.out _ he.symm; omega))
      replace HB := Aside0.mk (pw_below_grown HB.out rv.ownBlock (below_size HB.out) HG.out (fun k_ hk_ => by have h9 := HRB.out k_ hk_; omega))
      clear HW HQ
      have HW := HW3
      have HQ := HQ3
      clear HW3 HQ3 HN HG HT
      go_roundg (ql.length - (i + 1))
      case measure => have h9 := HLT.out; omega
      case rel => exact ⟨i + 1, m0, m1, m2, _, l3, _, l4, rv1, done ++ [⟨q.f0, false, y⟩], own, by have h9 := HLT.out; omega, by have h9 := HLT.out; omega, by have h9 := HLT.out; have h8 : ql.length ≤ 1000000 := HSZ.out.2.2.1; rw [show wrap64 ((i : Int) + 1) = ((i + 1 : Nat) : Int) from by clear HWF HWF1; unfold wrap64; omega], rfl, HWF1.out, by rw [List.length_append, List.length_singleton]; omega, by (try rw [List.length_cons]); omega, by omega, ⟨HE2.out⟩, HR, HS, HF, HW, HB⟩
  · skip
    obtain rfl : i = ql.length := by omega
    have HE1 := HE.out
    rw [List.drop_length] at HE1
    simp only [mergeAll, Prod.mk.injEq, List.append_nil] at HE1
    obtain ⟨⟨rfl, rfl, rfl, rfl, rfl⟩, rfl⟩ := HE1
    clear HE
    have i0 : decide ((ql.length : Int) < (ql.length : Int)) = false := decide_eq_false (by omega)
    go_wp2_with fail
    refine region_till 5 (fun _ => True) (fun w' : World => w'.cell? ⟨t1_, 0, none⟩ = some (.int .i64 0) ∧ w'.cell? ⟨t1_, 1, none⟩ = some (.int .i64 0) ∧ w'.cell? ⟨P, 0, none⟩ = some (.int .i64 m0) ∧ w'.cell? ⟨P, 1, none⟩ = some (.int .i64 m1) ∧ w'.cell? ⟨P, 2, none⟩ = some (.int .i64 m2) ∧ w'.cell? ⟨P, 3, none⟩ = some (.slice C3 l3.length c3) ∧ w'.cell? ⟨P, 4, none⟩ = some (.slice C4 l4.length c4)) (by kernel_rfl) ⟨trivial, ⟨bc0 (blk_drew HF.out) 0, bc0 (blk_drew HF.out) 1, bc0 (blk_drew HW.out.p) 0, bc0 (blk_drew HW.out.p) 1, bc0 (blk_drew HW.out.p) 2, bc0 (blk_drew HW.out.p) 3, bc0 (blk_drew HW.out.p) 4⟩⟩ (fun hTU => ?_)
    replace HR := Aside0.mk (blk_drew HR.out)
    replace HS := Aside0.mk (blk_drew HS.out)
    replace HF := Aside0.mk (blk_drew HF.out)
    replace HB := Aside0.mk (below_drew1 HB.out)
    replace HW := Aside0.mk HW.out.drew
    generalize wr.drew = V0 at *
    refine till_takeD (i := 0) (v := ?_) (some 127) rfl rfl (by kernel_rfl) (by kernel_rfl) (by kernel_rfl) (by kernel_rfl) (fun _ _ _ h => h) (Or.inl ⟨by rfl, ?_⟩) (by assumption) ?_
    rotate_left
    · (intro w_ hS_; (try dsimp only at hS_); go_simp; try with_reducible rfl)
    try simp only [Act.put, List.setIfInBounds_toArray, List.set_cons_zero, List.set_cons_succ]
    refine till_freeD (i := 1) (v := ?_) (some 128) rfl rfl (by decide) (by kernel_rfl) (by kernel_rfl) (by kernel_rfl) (fun _ _ _ h => h) (Or.inl ⟨by rfl, ?_⟩) ⟨hTU.1, fun _ => hTU.2⟩ ?_
    rotate_left
    · (intro w_ _; go_simp; try with_reducible rfl)
    try simp only [Act.put, List.setIfInBounds_toArray, List.set_cons_zero, List.set_cons_succ]
    refine till_takeD (i := 2) (v := ?_) (some 129) rfl rfl (by kernel_rfl) (by kernel_rfl) (by kernel_rfl) (by kernel_rfl) (fun _ _ _ h => h) (Or.inl ⟨by rfl, ?_⟩) (by assumption) ?_
    rotate_left
    · (intro w_ hS_; (try dsimp only at hS_); go_simp; try with_reducible rfl)
    try simp only [Act.put, List.setIfInBounds_toArray, List.set_cons_zero, List.set_cons_succ]
    refine till_one (i := 3) (by kernel_rfl) rfl (fun K hK => ?_)
    have HP := Aside0.mk HW.out.p
    have hPl := blk_lt HW.out.p
    have hbP2 := HW.out.bp
    have HX3 := Aside0.mk (Kd.V_mono (ok' := fun k_ => bs ≤ k_ ∧ k_ ≠ P) (Kd.N_V (base' := 0) HW.out.n3) (fun k_ hk_ => ⟨hk_.1.1, hk_.1.2.1⟩))
    have HX4 := Aside0.mk (Kd.V_mono (ok' := fun k_ => bs ≤ k_ ∧ k_ ≠ P) (GN_V (e := 75) (base' := 0) HW.out.n4) (fun k_ hk_ => ⟨hk_.1.1, hk_.1.2.1⟩))
    have HXR := Aside0.mk (Kd.V_mono (ok' := fun k_ => bs ≤ k_ ∧ k_ ≠ P) (Kd.N_V (base' := 0) HW.out.nr) (fun k_ hk_ => ⟨hk_.1.1, hk_.1.2.1⟩))
    clear HW
    have kHR := bc0 HR.out
    have fHR := bf0 HR.out
    have yHR := blk_lt HR.out
    go_simp
    clear kHR fHR yHR
    replace HR : Aside0 (((((((V0).setCell ⟨w.heap.size + 1, 0, none⟩ (.int .i64 m0)).setCell ⟨w.heap.size + 1, 1, none⟩ (.int .i64 m1)).setCell ⟨w.heap.size + 1, 2, none⟩ (.int .i64 m2)).setCell ⟨w.heap.size + 1, 3, none⟩ (.slice C3 l3.length c3)).setCell ⟨w.heap.size + 1, 4, none⟩ (.slice C4 l4.length c4)).heap[w.heap.size + 1]? = some (.cells #[(.int .i64 m0), (.int .i64 m1), (.int .i64 m2), (.slice C3 l3.length c3), (.slice C4 l4.length c4)] 25 (0, 0))) := Aside0.mk (blk_put (blk_put (blk_put (blk_put (blk_put HR.out 0 (.int .i64 m0) rfl) 1 (.int .i64 m1) rfl) 2 (.int .i64 m2) rfl) 3 (.slice C3 l3.length c3) rfl) 4 (.slice C4 l4.length c4) rfl)
    replace HS := Aside0.mk (blk_far (p := ⟨w.heap.size + 1, 4, none⟩) (blk_far (p := ⟨w.heap.size + 1, 3, none⟩) (blk_far (p := ⟨w.heap.size + 1, 2, none⟩) (blk_far (p := ⟨w.heap.size + 1, 1, none⟩) (blk_far (p := ⟨w.heap.size + 1, 0, none⟩) HS.out (show w.heap.size + 1 + 1 ≠ w.heap.size + 1 by omega) (.int .i64 m0)) (show w.heap.size + 1 + 1 ≠ w.heap.size + 1 by omega) (.int .i64 m1)) (show w.heap.size + 1 + 1 ≠ w.heap.size + 1 by omega) (.int .i64 m2)) (show w.heap.size + 1 + 1 ≠ w.heap.size + 1 by omega) (.slice C3 l3.length c3)) (show w.heap.size + 1 + 1 ≠ w.heap.size + 1 by omega) (.slice C4 l4.length c4))
    replace HF := Aside0.mk (blk_far (p := ⟨w.heap.size + 1, 4, none⟩) (blk_far (p := ⟨w.heap.size + 1, 3, none⟩) (blk_far (p := ⟨w.heap.size + 1, 2, none⟩) (blk_far (p := ⟨w.heap.size + 1, 1, none⟩) (blk_far (p := ⟨w.heap.size + 1, 0, none⟩) HF.out (show t1_ ≠ w.heap.size + 1 by omega) (.int .i64 m0)) (show t1_ ≠ w.heap.size + 1 by omega) (.int .i64 m1)) (show t1_ ≠ w.heap.size + 1 by omega) (.int .i64 m2)) (show t1_ ≠ w.heap.size + 1 by omega) (.slice C3 l3.length c3)) (show t1_ ≠ w.heap.size + 1 by omega) (.slice C4 l4.length c4))
    replace HP := Aside0.mk (blk_far (p := ⟨w.heap.size + 1, 4, none⟩) (blk_far (p := ⟨w.heap.size + 1, 3, none⟩) (blk_far (p := ⟨w.heap.size + 1, 2, none⟩) (blk_far (p := ⟨w.heap.size + 1, 1, none⟩) (blk_far (p := ⟨w.heap.size + 1, 0, none⟩) HP.out (show P ≠ w.heap.size + 1 by omega) (.int .i64 m0)) (show P ≠ w.heap.size + 1 by omega) (.int .i64 m1)) (show P ≠ w.heap.size + 1 by omega) (.int .i64 m2)) (show P ≠ w.heap.size + 1 by omega) (.slice C3 l3.length c3)) (show P ≠ w.heap.size + 1 by omega) (.slice C4 l4.length c4))
    replace HX3 := Aside0.mk (Kd.V_far (p := ⟨w.heap.size + 1, 4, none⟩) (Kd.V_far (p := ⟨w.heap.size + 1, 3, none⟩) (Kd.V_far (p := ⟨w.heap.size + 1, 2, none⟩) (Kd.V_far (p := ⟨w.heap.size + 1, 1, none⟩) (Kd.V_far (p := ⟨w.heap.size + 1, 0, none⟩) HX3.out (fun k_ (hk_ : bs ≤ k_ ∧ k_ ≠ P) => by show k_ ≠ w.heap.size + 1; omega) (.int .i64 m0)) (fun k_ (hk_ : bs ≤ k_ ∧ k_ ≠ P) => by show k_ ≠ w.heap.size + 1; omega) (.int .i64 m1)) (fun k_ (hk_ : bs ≤ k_ ∧ k_ ≠ P) => by show k_ ≠ w.heap.size + 1; omega) (.int .i64 m2)) (fun k_ (hk_ : bs ≤ k_ ∧ k_ ≠ P) => by show k_ ≠ w.heap.size + 1; omega) (.slice C3 l3.length c3)) (fun k_ (hk_ : bs ≤ k_ ∧ k_ ≠ P) => by show k_ ≠ w.heap.size + 1; omega) (.slice C4 l4.length c4))
    replace HX4 := Aside0.mk (Kd.V_far (p := ⟨w.heap.size + 1, 4, none⟩) (Kd.V_far (p := ⟨w.heap.size + 1, 3, none⟩) (Kd.V_far (p := ⟨w.heap.size + 1, 2, none⟩) (Kd.V_far (p := ⟨w.heap.size + 1, 1, none⟩) (Kd.V_far (p := ⟨w.heap.size + 1, 0, none⟩) HX4.out (fun k_ (hk_ : bs ≤ k_ ∧ k_ ≠ P) => by show k_ ≠ w.heap.size + 1; omega) (.int .i64 m0)) (fun k_ (hk_ : bs ≤ k_ ∧ k_ ≠ P) => by show k_ ≠ w.heap.size + 1; omega) (.int .i64 m1)) (fun k_ (hk_ : bs ≤ k_ ∧ k_ ≠ P) => by show k_ ≠ w.heap.size + 1; omega) (.int .i64 m2)) (fun k_ (hk_ : bs ≤ k_ ∧ k_ ≠ P) => by show k_ ≠ w.heap.size + 1; omega) (.slice C3 l3.length c3)) (fun k_ (hk_ : bs ≤ k_ ∧ k_ ≠ P) => by show k_ ≠ w.heap.size + 1; omega) (.slice C4 l4.length c4))
    replace HXR := Aside0.mk (Kd.V_far (p := ⟨w.heap.size + 1, 4, none⟩) (Kd.V_far (p := ⟨w.heap.size + 1, 3, none⟩) (Kd.V_far (p := ⟨w.heap.size + 1, 2, none⟩) (Kd.V_far (p := ⟨w.heap.size + 1, 1, none⟩) (Kd.V_far (p := ⟨w.heap.size + 1, 0, none⟩) HXR.out (fun k_ (hk_ : bs ≤ k_ ∧ k_ ≠ P) => by show k_ ≠ w.heap.size + 1; omega) (.int .i64 m0)) (fun k_ (hk_ : bs ≤ k_ ∧ k_ ≠ P) => by show k_ ≠ w.heap.size + 1; omega) (.int .i64 m1)) (fun k_ (hk_ : bs ≤ k_ ∧ k_ ≠ P) => by show k_ ≠ w.heap.size + 1; omega) (.int .i64 m2)) (fun k_ (hk_ : bs ≤ k_ ∧ k_ ≠ P) => by show k_ ≠ w.heap.size + 1; omega) (.slice C3 l3.length c3)) (fun k_ (hk_ : bs ≤ k_ ∧ k_ ≠ P) => by show k_ ≠ w.heap.size + 1; omega) (.slice C4 l4.length c4))
    replace HB := Aside0.mk (below_set (j := 4) (v := (.slice C4 l4.length c4)) (below_set (j := 3) (v := (.slice C3 l3.length c3)) (below_set (j := 2) (v := (.int .i64 m2)) (below_set (j := 1) (v := (.int .i64 m1)) (below_set (j := 0) (v := (.int .i64 m0)) HB.out (show w.heap.size ≤ w.heap.size + 1 by omega)) (show w.heap.size ≤ w.heap.size + 1 by omega)) (show w.heap.size ≤ w.heap.size + 1 by omega)) (show w.heap.size ≤ w.heap.size + 1 by omega)) (show w.heap.size ≤ w.heap.size + 1 by omega))
    generalize (((((V0).setCell ⟨w.heap.size + 1, 0, none⟩ (.int .i64 m0)).setCell ⟨w.heap.size + 1, 1, none⟩ (.int .i64 m1)).setCell ⟨w.heap.size + 1, 2, none⟩ (.int .i64 m2)).setCell ⟨w.heap.size + 1, 3, none⟩ (.slice C3 l3.length c3)).setCell ⟨w.heap.size + 1, 4, none⟩ (.slice C4 l4.length c4) = V1 at *
    refine hK.out _ _ trivial (fun _ _ => ⟨bc0 HF.out 0, bc0 HF.out 1, bc0 HP.out 0, bc0 HP.out 1, bc0 HP.out 2, bc0 HP.out 3, bc0 HP.out 4⟩) (fun hTV => ?_)
    clear hK K hTU
    have hTU := hTV (by kernel_rfl) (by decide)
    clear hTV
    try simp only [Act.put, List.setIfInBounds_toArray, List.set_cons_zero, List.set_cons_succ]
    refine till_freeD (i := 4) (v := ?_) (some 7) rfl rfl (by decide) (by kernel_rfl) (by kernel_rfl) (by kernel_rfl) (fun _ _ _ h => h) (Or.inl ⟨by rfl, ?_⟩) ⟨hTU.1, fun _ => hTU.2⟩ ?_
    rotate_left
    · (intro w_ _; go_simp; try with_reducible rfl)
    try simp only [Act.put, List.setIfInBounds_toArray, List.set_cons_zero, List.set_cons_succ]
    refine till_one (i := 5) (by kernel_rfl) rfl (fun K hK => ?_)
    have kHS := bc0 HS.out
    have fHS := bf0 HS.out
    have yHS := blk_lt HS.out
    go_simp
    clear kHS fHS yHS
    replace HR := Aside0.mk (blk_far (p := ⟨w.heap.size + 1 + 1, 1, none⟩) (blk_far (p := ⟨w.heap.size + 1 + 1, 0, none⟩) HR.out (show w.heap.size + 1 ≠ w.heap.size + 1 + 1 by omega) (.int .i64 0)) (show w.heap.size + 1 ≠ w.heap.size + 1 + 1 by omega) (.int .i64 0))
    replace HS : Aside0 ((((V1).setCell ⟨w.heap.size + 1 + 1, 0, none⟩ (.int .i64 0)).setCell ⟨w.heap.size + 1 + 1, 1, none⟩ (.int .i64 0)).heap[w.heap.size + 1 + 1]? = some (.cells #[(.int .i64 0), (.int .i64 0)] 29 (0, 0))) := Aside0.mk (blk_put (blk_put HS.out 0 (.int .i64 0) rfl) 1 (.int .i64 0) rfl)
    replace HF := Aside0.mk (blk_far (p := ⟨w.heap.size + 1 + 1, 1, none⟩) (blk_far (p := ⟨w.heap.size + 1 + 1, 0, none⟩) HF.out (show t1_ ≠ w.heap.size + 1 + 1 by omega) (.int .i64 0)) (show t1_ ≠ w.heap.size + 1 + 1 by omega) (.int .i64 0))
    replace HP := Aside0.mk (blk_far (p := ⟨w.heap.size + 1 + 1, 1, none⟩) (blk_far (p := ⟨w.heap.size + 1 + 1, 0, none⟩) HP.out (show P ≠ w.heap.size + 1 + 1 by omega) (.int .i64 0)) (show P ≠ w.heap.size + 1 + 1 by omega) (.int .i64 0))
    replace HX3 := Aside0.mk (Kd.V_far (p := ⟨w.heap.size + 1 + 1, 1, none⟩) (Kd.V_far (p := ⟨w.heap.size + 1 + 1, 0, none⟩) HX3.out (fun k_ (hk_ : bs ≤ k_ ∧ k_ ≠ P) => by show k_ ≠ w.heap.size + 1 + 1; omega) (.int .i64 0)) (fun k_ (hk_ : bs ≤ k_ ∧ k_ ≠ P) => by show k_ ≠ w.heap.size + 1 + 1; omega) (.int .i64 0))
    replace HX4 := Aside0.mk (Kd.V_far (p := ⟨w.heap.size + 1 + 1, 1, none⟩) (Kd.V_far (p := ⟨w.heap.size + 1 + 1, 0, none⟩) HX4.out (fun k_ (hk_ : bs ≤ k_ ∧ k_ ≠ P) => by show k_ ≠ w.heap.size + 1 + 1; omega) (.int .i64 0)) (fun k_ (hk_ : bs ≤ k_ ∧ k_ ≠ P) => by show k_ ≠ w.heap.size + 1 + 1; omega) (.int .i64 0))
    replace HXR := Aside0.mk (Kd.V_far (p := ⟨w.heap.size + 1 + 1, 1, none⟩) (Kd.V_far (p := ⟨w.heap.size + 1 + 1, 0, none⟩) HXR.out (fun k_ (hk_ : bs ≤ k_ ∧ k_ ≠ P) => by show k_ ≠ w.heap.size + 1 + 1; omega) (.int .i64 0)) (fun k_ (hk_ : bs ≤ k_ ∧ k_ ≠ P) => by show k_ ≠ w.heap.size + 1 + 1; omega) (.int .i64 0))
    replace HB := Aside0.mk (below_set (j := 1) (v := (.int .i64 0)) (below_set (j := 0) (v := (.int .i64 0)) HB.out (show w.heap.size ≤ w.heap.size + 1 + 1 by omega)) (show w.heap.size ≤ w.heap.size + 1 + 1 by omega))
    generalize ((V1).setCell ⟨w.heap.size + 1 + 1, 0, none⟩ (.int .i64 0)).setCell ⟨w.heap.size + 1 + 1, 1, none⟩ (.int .i64 0) = V2 at *
    refine hK.out _ _ trivial (fun _ h => absurd rfl h) (fun _ => ?_)
    clear hK K hTU
    refine till_done (by kernel_rfl) ?_ _
    go_wp2
    have kHR := bc0 HR.out
    have kHS := bc0 HS.out
    exact bodyPost_ret (v := .tuple #[.agg #[.int .i64 m0, .int .i64 m1, .int .i64 m2, .slice C3 l3.length c3, .slice C4 l4.length c4], rv, .agg #[.int .i64 0, .int .i64 0]]) (by simp [results, Tryd.results7, go_sem, kHR, kHS]) rfl ⟨_, _, _, rfl, Kd.V_mono HX3.out (fun k_ hk_ => by have := hk_.1; omega), Kd.V_mono HX4.out (fun k_ hk_ => by have := hk_.1; omega), Kd.V_mono HXR.out (fun k_ hk_ => by have := hk_.1; omega), HB.out⟩
set_option maxRecDepth 100000 in
theorem offline_Merge.calls (k : Nat) (a0 a1 a2 : Int) (aA : Option Addr) (aa : Nat) (a3 : List (S55)) (aB : Option Addr) (ab : Nat) (a4 : List (S75)) (base : Int) (qA : Option Addr) (qa : Nat) (ql : List (S43)) (r0 r1 r2 : Int) (r3 : List (S55)) (r4 : List (S75)) (sl : List (S68)) (f0 f1 : Int) (w : World) (ha3 : Kd.C k55 w aA a3.length a3) (ea3 : a3.length ≤ aa) (ha4 : Kd.C k75 w aB a4.length a4) (ea4 : a4.length ≤ ab) (hql : Kd.C k43 w qA ql.length ql) (eql : ql.length ≤ qa) (haw : mailbox_Validate.f k a0 a1 a2 a3 a4 = some (0, 0) → (Lit.int .i64 a1).wf = true) (hqw : ∀ q ∈ ql, (Lit.int .i64 q.f0).wf = true) (h : offline_Merge.f k a0 a1 a2 a3 a4 base ql = some (r0, r1, r2, r3, r4, sl, f0, f1)) :
    Calls Tryd.prog 7 #[.agg #[.int .i64 a0, .int .i64 a1, .int .i64 a2, .slice aA a3.length aa, .slice aB a4.length ab], .int .i64 base, .slice qA ql.length qa] w fun e w' => ∃ v3 v4 vs, e = .returned (.tuple #[.agg #[.int .i64 r0, .int .i64 r1, .int .i64 r2, v3, v4], vs, .agg #[.int .i64 f0, .int .i64 f1]]) ∧ Kd.V k55 55 w' 0 (fun k_ => w.heap.size ≤ k_) v3 (r3) ∧ Kd.V k75 75 w' 0 (fun k_ => w.heap.size ≤ k_) v4 (r4) ∧ Kd.V k68 68 w' 0 (fun k_ => w.heap.size ≤ k_) vs (sl) ∧ Below w.heap.size w w' := by
  unfold offline_Merge.f at h
  obtain ⟨⟨x, y⟩, ht, h⟩ := Option.bind_eq_some_iff.1 h
  split at h
  case isFalse e1 =>
    simp only [Option.some.injEq, Prod.mk.injEq] at h
    obtain ⟨h0, h1, h2, h3, h4, h5, h6, h7⟩ := h
    subst h0 h1 h2 h3 h4 h5 h6 h7
    exact Merge_a k a0 a1 a2 aA aa a3 aB ab a4 base qA qa ql w ha3 ea3 ha4 ea4 hql eql x y ht (merge_fault e1)
  case isTrue e1 =>
    injection e1 with e1 e2
    subst e1 e2
    split at h
    case isTrue e3 =>
      simp only [Option.some.injEq, Prod.mk.injEq] at h
      obtain ⟨h0, h1, h2, h3, h4, h5, h6, h7⟩ := h
      subst h0 h1 h2 h3 h4 h5 h6 h7
      exact Merge_b k a0 a1 a2 aA aa a3 aB ab a4 base qA qa ql w ha3 ea3 ha4 ea4 hql eql ht e3
    case isFalse e3 =>
      have hok : 1 ≤ base ∧ base ≤ a1 := by omega
      obtain ⟨⟨x, y⟩, hu, h⟩ := Option.bind_eq_some_iff.1 h
      split at h
      case isFalse e4 =>
        simp only [Option.some.injEq, Prod.mk.injEq] at h
        obtain ⟨h0, h1, h2, h3, h4, h5, h6, h7⟩ := h
        subst h0 h1 h2 h3 h4 h5 h6 h7
        exact Merge_c k a0 a1 a2 aA aa a3 aB ab a4 base qA qa ql w ha3 ea3 ha4 ea4 hql eql x y ht hok hu (merge_fault e4)
      case isTrue e4 =>
        injection e4 with e4 e5
        subst e4 e5
        split at h
        case isFalse => cases h
        case isTrue hsz =>
          simp only [Option.some.injEq, Prod.mk.injEq] at h
          obtain ⟨h0, h1, h2, h3, h4, h5, h6, h7⟩ := h
          subst h6 h7
          exact Merge_d k a0 a1 a2 aA aa a3 aB ab a4 base qA qa ql w ha3 ea3 ha4 ea4 hql eql (haw ht) hqw r0 r1 r2 r3 r4 sl ht hok hu hsz ⟨Prod.ext h0 (Prod.ext h1 (Prod.ext h2 (Prod.ext h3 h4))), h5⟩


end Go.Proofs.YtbnmddippoiabaaDoor.P
