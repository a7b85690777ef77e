/- A value that reads as data of a type is read as a Lean value of that type's kind, with the bounds that the row's reach gives. -/
import Derived.Test.YtbnmddippoiabaaDoorO6x0
import Derived.Deep.Slices
import Derived.ChangeArms
import Derived.DataReads
import Derived.ProofKit
set_option linter.unusedVariables false
set_option linter.unusedSimpArgs false
namespace Go.Proofs.YtbnmddippoiabaaDoor.OpenK
open Go.RowKit Go.Proofs.YtbnmddippoiabaaDoorW.PrintWords

def Small {H : Type} (P : Program) (t : TypeId) (d : DataW H) : Prop := ∀ n ∈ d.weights P t, n ≤ reachBytes

structure Opens {α : Type} (P : Program) (t : TypeId) (d : Kd α) (WF : α → Prop) : Prop where
  sz : P.cellsOf t = d.sz
  op : ∀ {H : Type} {enc : TypeId × Value → H} {w : World} {base : Nat} {spare : Nat → Bool} {held : Bool} {fuel : Nat} {cs : List Value} {x : DataW H × List MemPlace},
    DataW.trod enc P w base spare held fuel t cs = some x → Small P t x.1 → ∃ v : α, d.K w v cs ∧ WF v

section
variable {P : Program} {t e : TypeId}

theorem opens_int {k : IntKind} (ht : P.underlying t = some (.int k)) (hc : P.cellsOf t = 1) : Opens P t (Kd.int k) (fun n => (Lit.int k n).wf = true) := by
  refine ⟨hc, fun {H enc w base spare held fuel cs x} h _ => ?_⟩
  obtain ⟨n, rfl, _, wf⟩ := DataW.trod_int ht h
  exact ⟨n, rfl, wf⟩

theorem opens_bool (ht : P.underlying t = some .bool) (hc : P.cellsOf t = 1) : Opens P t Kd.bool (fun _ => True) := by
  refine ⟨hc, fun {H enc w base spare held fuel cs x} h _ => ?_⟩
  obtain ⟨n, rfl, _⟩ := DataW.trod_bool ht h
  exact ⟨n, rfl, trivial⟩

theorem opens_string (ht : P.underlying t = some .string) (hc : P.cellsOf t = 1) : Opens P t Kd.string (fun s => s.size ≤ reachBytes) := by
  refine ⟨hc, fun {H enc w base spare held fuel cs x} h hs => ?_⟩
  obtain ⟨s, rfl, rfl, wf⟩ := DataW.trod_string ht h
  refine ⟨s, rfl, ?_⟩
  have := hs s.data.toList.length (by simp [DataW.weights])
  rw [data_length] at this
  exact this

theorem build {α : Type} {p : Nat → α → Prop} : ∀ n : Nat, (∀ i, i < n → ∃ v, p i v) → ∃ l : List α, l.length = n ∧ ∀ i v, l[i]? = some v → p i v
  | 0, _ => ⟨[], rfl, fun i v h => by simp at h⟩
  | n + 1, h => by
    obtain ⟨l, hl, hp⟩ := build n (fun i hi => h i (by omega))
    obtain ⟨v, hv⟩ := h n (by omega)
    refine ⟨l ++ [v], by simp [hl], fun i u hu => ?_⟩
    rcases Nat.lt_or_ge i l.length with hi | hi
    · rw [List.getElem?_append_left hi] at hu
      exact hp i u hu
    · have h1 := (List.getElem?_eq_some_iff.1 hu).1
      rw [List.length_append, List.length_singleton] at h1
      obtain rfl : i = l.length := by omega
      simp at hu
      subst hu
      rw [hl]
      exact hv

theorem mem_weightsAll {H : Type} {d : DataW H} {n : Nat} : ∀ {l : List (DataW H)}, d ∈ l → n ∈ d.weights P e → n ∈ DataW.weightsAll P e l
  | [], h, _ => by cases h
  | a :: r, h, hn => by
    simp only [DataW.weightsAll]
    rcases List.mem_cons.1 h with rfl | h
    · exact List.mem_append_left _ hn
    · exact List.mem_append_right _ (mem_weightsAll h hn)

theorem opens_slice {α : Type} {d : Kd α} {WF : α → Prop} (ht : P.underlying t = some (.slice e)) (hc : P.cellsOf t = 1) (he : Opens P e d WF) :
    Opens P t (Kd.slice e d) (fun l => l.length * P.bytesOf e ≤ reachBytes ∧ l.length ≤ maxLen ∧ ∀ x ∈ l, WF x) := by
  refine ⟨hc, fun {H enc w base spare held fuel cs x} h hs => ?_⟩
  rcases Go.Deep.open_slice ht h with ⟨rfl, rfl⟩ | ⟨a, len, cap, m, n, D, Pl, rfl, hb, hl, hm, hmm, rfl, hx⟩
  · exact ⟨[], ⟨none, 0, rfl, Nat.le_refl _, ⟨rfl, by simp, fun h => absurd h (by simp)⟩⟩, by simp, by simp, by simp⟩
  · have hsm : ∀ i, i < len → Small P e (D i) := fun i hi k hk => hs k (by
      simp only [DataW.weights, ht]
      exact List.mem_cons_of_mem _ (List.mem_append_left _ (mem_weightsAll (List.mem_map.2 ⟨i, by simpa using hi, rfl⟩) hk)))
    obtain ⟨l, hll, hp⟩ := build (p := fun i v => WF v ∧ ∃ c, c.length = d.sz ∧ d.K w v c ∧ ∀ j u, c[j]? = some u → w.cell? (a.add (i * d.sz + j)) = some u) len (fun i hi => by
      obtain ⟨c, h1, h2⟩ := hx i (by split at hmm <;> omega)
      obtain ⟨v, hv, wf⟩ := he.op h2 (hsm i hi)
      obtain ⟨_, h3, h4⟩ := World.cells?_some h1
      refine ⟨v, wf, c, h3.trans he.sz, hv, fun j u hu => ?_⟩
      have hj := (List.getElem?_eq_some_iff.1 hu).1
      rw [← he.sz, ← add_add, h4 j (by omega), hu])
    subst hll
    have hb2 := hs ((l.length + (m - l.length)) * P.bytesOf e) (by
      simp only [DataW.weights, ht, List.length_map, List.length_range]
      exact List.mem_cons_self)
    refine ⟨l, ⟨some a, cap, rfl, hl, ⟨rfl, by unfold maxLen at hm; omega, fun _ => ⟨a, rfl, fun j p hj => (hp j p hj).2⟩⟩⟩, ?_, by omega, fun x hx => ?_⟩
    · exact Nat.le_trans (Nat.mul_le_mul_right _ (by omega)) hb2
    · obtain ⟨i, hi⟩ := List.mem_iff_getElem?.1 hx
      exact (hp i x hi).1

/-- Fields in line, from cell o on. -/
structure OpensF {α : Type} (P : Program) (fs : List Field) (o : Nat) (d : Kd α) (WF : α → Prop) : Prop where
  op : ∀ {H : Type} {enc : TypeId × Value → H} {w : World} {base : Nat} {spare : Nat → Bool} {held : Bool} {n : Nat} {cs : List Value} {xs : List (DataW H × List MemPlace)},
    cs.length = o + d.sz → xs.length = fs.length →
    (∀ (i : Nat) (f : Field), fs[i]? = some f → DataW.trod enc P w base spare held n f.type ((cs.drop f.offset).take (P.cellsOf f.type)) = xs[i]?) →
    (∀ k ∈ DataW.weightsEach P (fs.map (·.type)) (xs.map (·.1)), k ≤ reachBytes) → ∃ v : α, d.K w v (cs.drop o) ∧ WF v

theorem opensF_one {α : Type} {d : Kd α} {WF : α → Prop} {f : Field} {o : Nat} (hf : Opens P f.type d WF) (ho : f.offset = o) : OpensF P [f] o d WF := by
  refine ⟨fun {H enc w base spare held n cs xs} hl hx h hs => ?_⟩
  match xs, hx with
  | [x], _ =>
    have h0 := h 0 f rfl
    simp only [List.getElem?_cons_zero] at h0
    rw [ho, hf.sz, List.take_of_length_le (by rw [List.length_drop]; omega)] at h0
    exact hf.op h0 (fun k hk => hs k (by simpa [DataW.weightsEach] using hk))

theorem opensF_cons {α β : Type} {d : Kd α} {d' : Kd β} {WF : α → Prop} {WF' : β → Prop} {f : Field} {fs : List Field} {o : Nat} (hf : Opens P f.type d WF) (ho : f.offset = o) (hr : OpensF P fs (o + d.sz) d' WF') :
    OpensF P (f :: fs) o (Kd.pair d d') (fun x => WF x.1 ∧ WF' x.2) := by
  refine ⟨fun {H enc w base spare held n cs xs} hl hx h hs => ?_⟩
  match xs, hx with
  | x :: xs, hx =>
    have h0 := h 0 f rfl
    simp only [List.getElem?_cons_zero] at h0
    rw [ho, hf.sz] at h0
    obtain ⟨v, hv, wf⟩ := hf.op h0 (fun k hk => hs k (by simp only [List.map_cons, DataW.weightsEach]; exact List.mem_append_left _ hk))
    have hl' : cs.length = o + (d.sz + d'.sz) := hl
    obtain ⟨u, hu, wf'⟩ := hr.op (cs := cs) (xs := xs) (by omega) (by simpa using hx) (fun i g hg => by simpa using h (i + 1) g (by simpa using hg)) (fun k hk => hs k (by simp only [List.map_cons, DataW.weightsEach]; exact List.mem_append_right _ hk))
    exact ⟨(v, u), ⟨(cs.drop o).take d.sz, cs.drop (o + d.sz), by rw [← List.drop_drop, List.take_append_drop], hv, hu⟩, wf, wf'⟩

theorem opens_struct {α : Type} {d : Kd α} {WF : α → Prop} {fs : Array Field} (ht : P.underlying t = some (.struct fs)) (hc : P.cellsOf t = d.sz) (h : OpensF P fs.toList 0 d WF) : Opens P t d WF := by
  refine ⟨hc, fun {H enc w base spare held fuel cs x} hx hs => ?_⟩
  obtain ⟨xs, n, rfl, rfl, hl, hxl, hf⟩ := DataW.trod_struct ht hx
  have := h.op (cs := cs) (xs := xs) (by omega) (by simpa using hxl) (fun i f hi => hf i f (by simpa using hi)) (fun k hk => hs k (by simpa only [DataW.weights, ht] using hk))
  simpa using this

theorem opens_iso {α β : Type} {d : Kd α} {WF : α → Prop} (f : β → α) (g : α → β) (hfg : ∀ a, f (g a) = a) (h : Opens P t d WF) : Opens P t (d.iso f) (fun b => WF (f b)) := by
  refine ⟨h.sz, fun {H enc w base spare held fuel cs x} hx hs => ?_⟩
  obtain ⟨v, hv, wf⟩ := h.op hx hs
  exact ⟨g v, by show d.K w (f (g v)) cs; rw [hfg]; exact hv, by rw [hfg]; exact wf⟩

theorem opens_imp {α : Type} {d : Kd α} {WF WF' : α → Prop} (h : Opens P t d WF) (hi : ∀ x, WF x → WF' x) : Opens P t d WF' :=
  ⟨h.sz, fun hx hs => by obtain ⟨v, hv, wf⟩ := h.op hx hs; exact ⟨v, hv, hi v wf⟩⟩
end
end Go.Proofs.YtbnmddippoiabaaDoor.OpenK
