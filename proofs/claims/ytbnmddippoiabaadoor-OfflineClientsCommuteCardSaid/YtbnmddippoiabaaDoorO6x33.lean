/- The law that two clients can be merged in any order: the walk for every argument. -/
import Derived.Test.YtbnmddippoiabaaDoorO6x29
import Derived.Test.YtbnmddippoiabaaDoorO6x30
import Derived.Test.YtbnmddippoiabaaDoorO6x31
import Derived.Test.YtbnmddippoiabaaDoorO6x32
namespace Go.Proofs.YtbnmddippoiabaaDoor.P
open Go.RowKit Go.Proofs.YtbnmddippoiabaaDoorW.PrintWords Go.Proofs.YtbnmddippoiabaaDoorW.PrintLast Go.Proofs.YtbnmddippoiabaaDoorW.PrintMore
set_option linter.unusedVariables false
theorem viewOfl_ev (a0 a1 a2 : Int) (l : List (S55)) (l4 : List (S75)) (hl : l.length ≤ 1000) : ∀ (t : List (S55)) (j : Nat) (x : List (S83)), l.drop j = t → x.length + t.length ≤ 1000 → Ev (fun k => posthouseref8_ViewOf.l0 k j a0 a1 a2 l l4 a1 x) (a1, x ++ seenOf t)
  | [], j, x, hd, _ => by
    have hj : l.length ≤ j := List.drop_eq_nil_iff.1 hd
    exact Ev.one (fun k => by simp only [posthouseref8_ViewOf.l0]; rw [if_neg (by omega)]; simp [seenOf])
  | y :: t, j, x, hd, hx => by
    have hy : l[j]? = some y := by rw [← List.head?_drop, hd]; rfl
    have hj := (List.getElem?_eq_some_iff.1 hy).1
    have hd' : l.drop (j + 1) = t := by rw [← List.tail_drop, hd]; rfl
    rw [List.length_cons] at hx
    have hw : wrap64 ((j : Int) + 1) = ((j + 1 : Nat) : Int) := by unfold wrap64; omega
    have ih := viewOfl_ev a0 a1 a2 l l4 hl t (j + 1) (x ++ [⟨y.f0, y.f2⟩]) hd' (by rw [List.length_append, List.length_singleton]; omega)
    exact Ev.step (fun k => by simp only [posthouseref8_ViewOf.l0]; rw [if_pos (by omega), if_pos (by omega), if_pos (by omega), rd_stored hy, hw]) (by rw [List.append_assoc] at ih; exact ih)
theorem viewOf_ev (a0 a1 a2 : Int) (l : List (S55)) (l4 : List (S75)) (hl : l.length ≤ 1000) : Ev (fun k => posthouseref8_ViewOf.f k a0 a1 a2 l l4) (a1, seenOf l) := by
  have h := viewOfl_ev a0 a1 a2 l l4 hl l 0 [] rfl (by simpa using hl)
  rw [List.nil_append] at h
  exact h
theorem seenEq_ev (l : List (S83)) (hl : l.length ≤ 1000) : ∀ (t : List (S83)) (j : Nat), l.drop j = t → Ev (fun k => posthouseref8_SameSeen.l0 k l l j) true
  | [], j, hd => by
    have hj : l.length ≤ j := List.drop_eq_nil_iff.1 hd
    exact Ev.one (fun k => by simp only [posthouseref8_SameSeen.l0]; rw [if_neg (by omega)])
  | y :: t, j, hd => by
    have hy : l[j]? = some y := by rw [← List.head?_drop, hd]; rfl
    have hj := (List.getElem?_eq_some_iff.1 hy).1
    have hd' : l.drop (j + 1) = t := by rw [← List.tail_drop, hd]; rfl
    have hw : wrap64 ((j : Int) + 1) = ((j + 1 : Nat) : Int) := by unfold wrap64; omega
    exact Ev.step (fun k => by simp only [posthouseref8_SameSeen.l0]; rw [if_pos (by omega), if_pos (by omega), if_pos (by omega), if_neg (by simp), hw]) (seenEq_ev l hl t (j + 1) hd')
theorem seenEqf_ev (l : List (S83)) (hl : l.length ≤ 1000) : Ev (fun k => posthouseref8_SameSeen.f k l l) true :=
  Ev.congr (fun k => by unfold posthouseref8_SameSeen.f; rw [if_pos rfl]; rfl) (seenEq_ev l hl l 0 rfl)
theorem fold_le : ∀ (l : List (S43)) (s : Int × List (S83)), (l.foldl absStep s).1 ≤ s.1 + l.length
  | [], s => by simp
  | q :: l, s => by
    have h := fold_le l (absStep s q)
    have h1 : (absStep s q).1 ≤ s.1 + 1 := by
      unfold absStep
      dsimp only
      split <;> omega
    rw [List.foldl_cons, List.length_cons]
    omega
theorem mergeAll_nil (base : Int) (a0 a1 a2 : Int) (l3 : List (S55)) (l4 : List (S75)) : (mergeAll base [] a0 a1 a2 l3 l4 []).1 = (a0, a1, a2, l3, l4) := rfl
/-- OFFLINECLIENTSCOMMUTE ANSWERS YES, whatever its arguments hold. -/
theorem OfflineClientsCommute_walk (a0 a1 a2 : Int) (aA : Option Addr) (aa : Nat) (a3 : List (S55)) (aB : Option Addr) (ab : Nat) (a4 : List (S75)) (base : Int) (qA : Option Addr) (qa : Nat) (ql : List (S43)) (pA : Option Addr) (pa : Nat) (pl : List (S43)) (w : World) (wa : WFBox a3 a4) (ha3 : Kd.C k55 w aA a3.length a3) (ea3 : a3.length ≤ aa) (ha4 : Kd.C k75 w aB a4.length a4) (ea4 : a4.length ≤ ab) (wb : (Lit.int .i64 base).wf = true) (hql : Kd.C k43 w qA ql.length ql) (eql : ql.length ≤ qa) (hqw : ∀ q ∈ ql, (Lit.int .i64 q.f0).wf = true) (hpl : Kd.C k43 w pA pl.length pl) (epl : pl.length ≤ pa) (hpw : ∀ q ∈ pl, (Lit.int .i64 q.f0).wf = true) :
    Calls Tryd.prog 4 #[.agg #[.int .i64 a0, .int .i64 a1, .int .i64 a2, .slice aA a3.length aa, .slice aB a4.length ab], .int .i64 base, .slice qA ql.length qa, .slice pA pl.length pa] w fun e w' => e = .returned (.bool true) ∧ Below w.heap.size w w' := by
  have hex : ∀ w, Calls Tryd.prog 12 #[] w fun e w' => e = .returned (.bool true) ∧ Below w.heap.size w w' := fun w => posthouselaw8_offlineExample.calls 0 true w rfl
  obtain ⟨r0, r1, r2, r3, r4, sa, e1, e1', ⟨K1, hK1⟩, z1, wr⟩ := merge_ev (a0 := a0) (a1 := a1) (a2 := a2) wa base ql
  obtain ⟨x0, x1, x2, x3, x4, sb, e2, e2', ⟨K2, hK2⟩, z2, wx⟩ := merge_ev (a0 := r0) (a1 := r1) (a2 := r2) wr base pl
  obtain ⟨t0, t1, t2, t3, t4, sc, e3, e3', ⟨K3, hK3⟩, z3, wt⟩ := merge_ev (a0 := a0) (a1 := a1) (a2 := a2) wa base pl
  obtain ⟨y0, y1, y2, y3, y4, sd, e4, e4', ⟨K4, hK4⟩, z4, wy⟩ := merge_ev (a0 := t0) (a1 := t1) (a2 := t2) wt base ql
  have main : (∀ x ∈ ql, ∀ y ∈ pl, Apart x y) → a1 ≤ 900000 → e1 = 0 → e2 = 0 → e3 = 0 → e4 = 0 → x1 = y1 ∧ seenOf x3 = seenOf y3 ∧ x3.length ≤ 200 ∧ y3.length ≤ 200 := by
    intro hap hsm h1 h2 h3 h4
    obtain ⟨ba, -, -, nq, oq, m1, -⟩ := z1 h1
    obtain ⟨br, -, -, np, op, m2, -⟩ := z2 h2
    obtain ⟨-, -, -, -, -, m3, -⟩ := z3 h3
    obtain ⟨bt, -, -, -, -, m4, -⟩ := z4 h4
    have bx := (merge_keeps base pl r0 r1 r2 r3 r4 [] x0 x1 x2 x3 x4 op br wr m2).1
    have bY := (merge_keeps base ql t0 t1 t2 t3 t4 [] y0 y1 y2 y3 y4 oq bt wt m4).1
    refine (fun (h : x1 = y1 ∧ seenOf x3 = seenOf y3) => ⟨h.1, h.2, bx.n3, bY.n3⟩) ?_
    by_cases hqn : ql = []
    · subst hqn
      rw [mergeAll_nil] at m1 m4
      simp only [Prod.mk.injEq] at m1 m4
      obtain ⟨rfl, rfl, rfl, rfl, rfl⟩ := m1
      obtain ⟨rfl, rfl, rfl, rfl, rfl⟩ := m4
      rw [m2] at m3
      simp only [Prod.mk.injEq] at m3
      obtain ⟨rfl, rfl, rfl, rfl, rfl⟩ := m3
      exact ⟨rfl, rfl⟩
    by_cases hpn : pl = []
    · subst hpn
      rw [mergeAll_nil] at m2 m3
      simp only [Prod.mk.injEq] at m2 m3
      obtain ⟨rfl, rfl, rfl, rfl, rfl⟩ := m2
      obtain ⟨rfl, rfl, rfl, rfl, rfl⟩ := m3
      rw [m1] at m4
      simp only [Prod.mk.injEq] at m4
      obtain ⟨rfl, rfl, rfl, rfl, rfl⟩ := m4
      exact ⟨rfl, rfl⟩
    obtain ⟨q0, hq0⟩ := List.exists_mem_of_ne_nil _ hqn
    obtain ⟨p0, hp0⟩ := List.exists_mem_of_ne_nil _ hpn
    have rq : ∀ q ∈ ql, q.f3 = false := fun q hq => (hap q hq p0 hp0).1
    have rp : ∀ p ∈ pl, p.f3 = false := fun p hp => (hap q0 hq0 p hp).2.1
    have f1 := merge_flags base ql a0 a1 a2 a3 a4 [] oq rq ba wa (by omega)
    have f3 := merge_flags base pl a0 a1 a2 a3 a4 [] op rp ba wa (by omega)
    rw [m1] at f1
    rw [m3] at f3
    have l1 := fold_le ql (a1, seenOf a3)
    have l3 := fold_le pl (a1, seenOf a3)
    rw [← f1] at l1
    rw [← f3] at l3
    have f2 := merge_flags base pl r0 r1 r2 r3 r4 [] op rp br wr (by dsimp only at l1; omega)
    have f4 := merge_flags base ql t0 t1 t2 t3 t4 [] oq rq bt wt (by dsimp only at l3; omega)
    rw [m2] at f2
    rw [m4] at f4
    dsimp only at f1 f2 f3 f4
    rw [f1] at f2
    rw [f3] at f4
    have hc := fold_comm ql pl (a1, seenOf a3) (fun q hq p hp => (hap q hq p hp).2.2)
    rw [← f2, ← f4] at hc
    simp only [Prod.mk.injEq] at hc
    exact ⟨hc.1.symm, hc.2.symm⟩
  by_cases hall : (∀ x ∈ ql, ∀ y ∈ pl, Apart x y) ∧ a1 ≤ 900000 ∧ e1 = 0 ∧ e2 = 0 ∧ e3 = 0 ∧ e4 = 0
  · obtain ⟨c1, c2, c3, c4, c5, c6⟩ := hall
    obtain ⟨d1, d2, d3, d4⟩ := main c1 c2 c3 c4 c5 c6
    obtain ⟨K5, hK5⟩ := viewOf_ev x0 x1 x2 x3 x4 (by omega)
    obtain ⟨K6, hK6⟩ := viewOf_ev y0 y1 y2 y3 y4 (by omega)
    obtain ⟨K7, hK7⟩ := seenEqf_ev (seenOf x3) (by unfold seenOf; rw [List.length_map]; omega)
    have hle : ∃ K, K1 ≤ K ∧ K2 ≤ K ∧ K3 ≤ K ∧ K4 ≤ K ∧ K5 ≤ K ∧ K6 ≤ K ∧ K7 ≤ K := ⟨K1 + K2 + K3 + K4 + K5 + K6 + K7, by omega, by omega, by omega, by omega, by omega, by omega, by omega⟩
    obtain ⟨K, g1, g2, g3, g4, g5, g6, g7⟩ := hle
    exact OffCommute_all K a0 a1 a2 aA aa a3 aB ab a4 base qA qa ql pA pa pl r0 r1 r2 r3 r4 x0 x1 x2 x3 x4 t0 t1 t2 t3 t4 y0 y1 y2 y3 y4 sa sb sc sd e1 e1' e2 e2' e3 e3' e4 e4' w ha3 ea3 ha4 ea4 hql eql hqw hpl epl hpw (fun h => box_wf wa h) (fun h => box_wf wr h) (fun h => box_wf wt h) hex (hK1 K g1) (hK2 K g2) (hK3 K g3) (hK4 K g4)
      (fun _ _ _ _ _ _ => ⟨d1, x1, seenOf x3, y1, seenOf y3, hK5 K g5, hK6 K g6, by rw [← d2]; exact hK7 K g7⟩)
  · have hle : ∃ K, K1 ≤ K ∧ K2 ≤ K ∧ K3 ≤ K ∧ K4 ≤ K := ⟨K1 + K2 + K3 + K4, by omega, by omega, by omega, by omega⟩
    obtain ⟨K, g1, g2, g3, g4⟩ := hle
    exact OffCommute_all K a0 a1 a2 aA aa a3 aB ab a4 base qA qa ql pA pa pl r0 r1 r2 r3 r4 x0 x1 x2 x3 x4 t0 t1 t2 t3 t4 y0 y1 y2 y3 y4 sa sb sc sd e1 e1' e2 e2' e3 e3' e4 e4' w ha3 ea3 ha4 ea4 hql eql hqw hpl epl hpw (fun h => box_wf wa h) (fun h => box_wf wr h) (fun h => box_wf wt h) hex (hK1 K g1) (hK2 K g2) (hK3 K g3) (hK4 K g4)
      (fun c1 c2 c3 c4 c5 c6 => absurd ⟨c1, c2, c3, c4, c5, c6⟩ hall)
end Go.Proofs.YtbnmddippoiabaaDoor.P
