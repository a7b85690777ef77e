/- Small lemmas for this seat's walks: cells behind new blocks, a range test as one Bool, what stays below. -/
import Derived.Test.YtbnmddippoiabaaDoorProg
import Derived.Test.YtbnmddippoiabaaDoorO6x4
import Derived.Test.YtbnmddippoiabaaDoorO6x5
namespace Go.Proofs.YtbnmddippoiabaaDoor.P
open Go.RowKit Go.Proofs.YtbnmddippoiabaaDoorW.PrintWords Go.Proofs.YtbnmddippoiabaaDoorW.PrintLast Go.Proofs.YtbnmddippoiabaaDoorW.PrintMore
set_option linter.unusedVariables false
set_option linter.unusedSimpArgs false

/-- A test of a range as one Bool. -/
def inB (a b c : Int) : Bool := decide (b ≤ a) && decide (a ≤ c)
theorem inB_iff {a b c : Int} : inB a b c = true ↔ b ≤ a ∧ a ≤ c := by simp [inB]
theorem cell1 {w : World} {a : Addr} {v : Value} (h : w.cell? a = some v) : ∀ o, (w.alloc o).cell? a = some v := fun o => ((below_alloc (Below.refl _ w) o).cell (World.block_lt_of_cell? w _ h)).trans h
theorem cell2 {w : World} {a : Addr} {v : Value} (h : w.cell? a = some v) : ∀ o o2, ((w.alloc o).alloc o2).cell? a = some v := fun o o2 => cell1 (cell1 h o) o2
theorem cell_later {w w1 : World} {a : Addr} {v : Value} (h : w.cell? a = some v) (hb : Below w.heap.size w w1) : w1.cell? a = some v := (hb.cell (World.block_lt_of_cell? w _ h)).trans h
theorem i64_fit {x : Int} (h0 : -9223372036854775808 ≤ x) (h1 : x ≤ 9223372036854775807) : IntKind.i64.wrap x = x := (i64_w _).trans (by unfold wrap64; omega)
theorem V_block {α : Type} {d : Kd α} {e base g cap : Nat} {t : TypeId} {fr : Nat × Nat} {W : World} {ok : Nat → Prop} {cells : Array Value} {xs : List α} (hb : W.heap[g]? = some (.cells cells t fr)) (hg : ok g)
    (hx : ∀ j x, xs[j]? = some x → ∃ c, c.length = d.sz ∧ Kd.FK d W ok x c ∧ ∀ i u, c[i]? = some u → cells[j * d.sz + i]? = some u) (hl : xs.length ≤ cap) (hm : xs.length ≤ 9223372036854775807) :
    Kd.V d e W base ok (.slice (some ⟨g, 0, none⟩) xs.length cap) xs := by
  refine ⟨_, _, rfl, hl, fun W' hW => ⟨rfl, hm, fun _ => ⟨_, rfl, fun j p hj => ?_⟩⟩⟩
  obtain ⟨c, hc, hk, hi⟩ := hx j p hj
  refine ⟨c, hc, hk W' hW, fun i u hu => ?_⟩
  have hb' : W'.heap[g]? = some (.cells cells t fr) := (hW g hg (Array.getElem?_eq_some_iff.1 hb).1).trans hb
  rw [add_plain]
  exact (cell_of_row W' g _ cells t fr hb').trans (hi i u hu)
theorem V_nums {k : IntKind} {e base g cap : Nat} {t : TypeId} {fr : Nat × Nat} {W : World} {ok : Nat → Prop} {cells : Array Value} {xs : List Int} (hb : W.heap[g]? = some (.cells cells t fr)) (hg : ok g)
    (hx : ∀ j : Nat, j < xs.length → cells[j]? = some (.int k (xs.getD j 0))) (hl : xs.length ≤ cap) (hm : xs.length ≤ 9223372036854775807) :
    Kd.V (Kd.int k) e W base ok (.slice (some ⟨g, 0, none⟩) xs.length cap) xs := by
  refine V_block hb hg (fun j x hj => ?_) hl hm
  have hjl := (List.getElem?_eq_some_iff.1 hj).1
  refine ⟨[.int k x], rfl, fun _ _ => rfl, fun i u hu => ?_⟩
  match i, hu with
  | 0, hu =>
    have h1 := hx j hjl
    rw [List.getD_eq_getElem?_getD, hj] at h1
    show cells[j * 1 + 0]? = _
    rw [Nat.mul_one, Nat.add_zero, h1]
    exact hu
theorem V_one {α : Type} {d : Kd α} {e base g cap : Nat} {t : TypeId} {fr : Nat × Nat} {W : World} {ok : Nat → Prop} {x : α} {c : List Value} {cells : Array Value} (hb : W.heap[g]? = some (.cells cells t fr)) (hc : cells.toList = c) (hg : ok g) (hl : c.length = d.sz) (hx : Kd.FK d W ok x c) (hcap : 1 ≤ cap) :
    Kd.V d e W base ok (.slice (some ⟨g, 0, none⟩) 1 cap) [x] := by
  refine V_block (xs := [x]) hb hg (fun j y hj => ?_) hcap (by simp)
  match j, hj with
  | 0, hj =>
    simp at hj
    subst hj
    refine ⟨c, hl, hx, fun i u hu => ?_⟩
    rw [Nat.zero_mul, Nat.zero_add, ← Array.getElem?_toList, hc]
    exact hu
theorem blk_at1 {w : World} (o1 o2 : Obj) : ((w.alloc o1).alloc o2).heap[w.heap.size + 1]? = some o2 := by simpa using blk_new (w.alloc o1) o2
theorem blk_at2 {w : World} (o1 o2 o3 : Obj) : (((w.alloc o1).alloc o2).alloc o3).heap[w.heap.size + 1 + 1]? = some o3 := by simpa using blk_new ((w.alloc o1).alloc o2) o3
theorem blk_later {w : World} {g : Nat} {o : Obj} (h : w.heap[g]? = some o) (o2 : Obj) : (w.alloc o2).heap[g]? = some o := ((below_alloc (Below.refl _ w) o2).block g (blk_lt h)).trans h
theorem blk_at {w : World} (o : Obj) : (w.alloc o).heap[w.heap.size]? = some o := blk_new w o
theorem bc0 {w : World} {g : Nat} {t : TypeId} {cs : Array Value} (h : w.heap[g]? = some (.cells cs t (0, 0))) : ∀ (j : Nat), w.cell? ⟨g, j, none⟩ = cs[j]? := fun  j => blk_cell h j
theorem bf0 {w : World} {g : Nat} {t : TypeId} {cs : Array Value} (h : w.heap[g]? = some (.cells cs t (0, 0))) : ∀ (j : Nat), w.frozen? ⟨g, j, none⟩ = false := fun  j => blk_frozen h j
theorem bc1 {w : World} {g : Nat} {t : TypeId} {cs : Array Value} (h : w.heap[g]? = some (.cells cs t (0, 0))) : ∀ (o1 : Obj) (j : Nat), (w.alloc o1).cell? ⟨g, j, none⟩ = cs[j]? := fun o1 j => blk_cell (blk_later h o1) j
theorem bf1 {w : World} {g : Nat} {t : TypeId} {cs : Array Value} (h : w.heap[g]? = some (.cells cs t (0, 0))) : ∀ (o1 : Obj) (j : Nat), (w.alloc o1).frozen? ⟨g, j, none⟩ = false := fun o1 j => blk_frozen (blk_later h o1) j
theorem bc2 {w : World} {g : Nat} {t : TypeId} {cs : Array Value} (h : w.heap[g]? = some (.cells cs t (0, 0))) : ∀ (o1 o2 : Obj) (j : Nat), ((w.alloc o1).alloc o2).cell? ⟨g, j, none⟩ = cs[j]? := fun o1 o2 j => blk_cell (blk_later (blk_later h o1) o2) j
theorem bf2 {w : World} {g : Nat} {t : TypeId} {cs : Array Value} (h : w.heap[g]? = some (.cells cs t (0, 0))) : ∀ (o1 o2 : Obj) (j : Nat), ((w.alloc o1).alloc o2).frozen? ⟨g, j, none⟩ = false := fun o1 o2 j => blk_frozen (blk_later (blk_later h o1) o2) j
theorem blk_call {w w1 : World} {g : Nat} {o : Obj} (h : w.heap[g]? = some o) (hb : Below w.heap.size w w1) : w1.heap[g]? = some o := (hb.block g (blk_lt h)).trans h
theorem eqFault (d : Nat) (w : World) (x0 y0 : Int) (x1 y1 : Int) : (Op.equalIn (d + 2) 29 (.agg #[.int .i64 x0, .int .i64 x1]) (.agg #[.int .i64 y0, .int .i64 y1])).run Tryd.prog w = .ok (x0 == y0 && (x1 == y1)) w := by
  refine eqA_of Tryd.underlying29 (by kernel_rfl) ?_
  refine eqf_cons (by rfl) (by go_simp; rfl) (by go_simp; rfl) (by go_simp) ?_
  exact eqf_last (by rfl) (by go_simp; rfl) (by go_simp; rfl) (by go_simp)
theorem getD_some {α : Type} {xs : List α} {i : Nat} (z : α) (h : i < xs.length) : xs[i]? = some (xs.getD i z) := by
  rw [List.getD_eq_getElem?_getD, List.getElem?_eq_getElem h]; rfl
end Go.Proofs.YtbnmddippoiabaaDoor.P
