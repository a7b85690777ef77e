/- The law ViewsShowTheirMailbox of the seat: its row (for every argument that reads as data the call returns true and leaves each argument as it read) and the card over it, on condition that the two tables of unicode/utf8 that the row lists hold what Go's text lays. -/
import Derived.Test.YtjmnaipoccpbmaaDoorCards
import Derived.Test.YtjmnaipoccpbmaaDoorTie
import Derived.Test.YtjmnaipoccpbmaaDoorVs11
import Derived.Test.YtjmnaipoccpbmaaDoorVs39
import Derived.WalkKit
import Derived.ProofKit
import Derived.OpenShut
import Derived.ChangeOld
import Derived.Below
import Derived.SizedLaws
import Derived.Carry
import Derived.Lay
import Derived.LaidOnce
import Derived.SevenTiedAt
import Derived.MakeChecks
namespace Go.Proofs.YtjmnaipoccpbmaaDoor.viewsShowTheirMailbox
open Go.RowKit Go.ChangeShapes Go.WideShapes Go.ChangeAt Go.Proofs.YtjmnaipoccpbmaaDoor.P Go.Proofs.YtjmnaipoccpbmaaDoor.OpenK
set_option linter.unusedVariables false
set_option maxRecDepth 100000
theorem own : ownKnob Tryd.prog.godebug = none := by kernel_rfl
theorem laidOut : laidOutB Tryd.prog = true := by kernel_rfl
theorem lifted (os : Os) (started : os.Started) (H : Type) (enc : TypeId × Value → H) :
    ReturnsInHanded {} Tryd.checked os 3 .any (fun w args => (Rows.viewsShowTheirMailboxSpec.pre enc Tryd.prog Tryd.f3 Rows.viewsShowTheirMailboxRow.domain false w args ∧ laidMetH Tryd.prog Rows.viewsShowTheirMailboxRow.laid w) ∧ sizedMet enc Tryd.prog Tryd.f3 (OpenSpec.ofChange Rows.viewsShowTheirMailboxSpec) false w args)
      (Rows.viewsShowTheirMailboxSpec.post enc Tryd.prog Tryd.f3 false true false false) := by
  refine returnsInHanded_of_change_and (C := Tryd.checked) (X := fun w _ => laidMetH Tryd.prog Rows.viewsShowTheirMailboxRow.laid w) (fun _ _ _ hh h => h.of_heap hh) own started (by kernel_rfl) Tryd.func3
    (ChangeSpec.witness_shaped (enc := enc) (C := Tryd.checked) (os := os) (X := fun w _ => laidMetH Tryd.prog Rows.viewsShowTheirMailboxRow.laid w) false (World.laidAll Tryd.prog os Rows.viewsShowTheirMailboxRow.laid) #[.agg #[.int .i64 0, .int .i64 0, .int .i64 0, .slice none 0 0, .slice none 0 0], .agg #[.slice none 0 0, .slice none 0 0]] 8 (World.laidAll_os _ _ _)
      (World.shaped_of_ZipB (by kernel_rfl) (by kernel_rfl)) (by kernel_rfl) (by kernel_rfl) (by kernel_rfl)
      (by rw [MakeChecks.laidMetH_plain _ _ _ (by kernel_rfl)]; exact laidMet_laidAll _ (by kernel_rfl) (by kernel_rfl))) ?_
  intro W base args ds gs before hval0 hW hcnd hsz0 hL hHH
  have hval : ∀ (j : Nat) t v, Tryd.f3.params[j]? = some t → args[j]? = some v → Value.okWide Tryd.prog W .any base t v := hval0
  have hW' := hW
  obtain ⟨p, q, hA0, hV, rfl, _, _⟩ := hW
  have hA : DataW.TrodAll enc Tryd.prog W 0 (fun _ => true) true Tryd.f3.params.toList args.toList ds p := hA0
  have hsz : (DataW.weightsEach Tryd.prog (Tryd.f3.params.toList ++ Rows.viewsShowTheirMailboxSpec.plain.varTypes Tryd.prog) (ds ++ gs)).all (· ≤ reachBytes) = true := hsz0
  rw [Tryd.params3] at hA hval hsz
  obtain ⟨v0, vs0, d0, ds0, p0, q0, hargs, rfl, rfl, h0, r0⟩ := trodAll_cons hA
  obtain ⟨v1, vs1, d1, ds1, p1, q1, rfl, rfl, rfl, h1, r1⟩ := trodAll_cons r0
  have hv0 : Rows.viewsShowTheirMailboxSpec.plain.varTypes Tryd.prog = [] := by kernel_rfl
  rw [hv0] at hsz
  obtain ⟨rfl, rfl, rfl⟩ := trodAll_nil r1
  obtain rfl : args = #[v0, v1] := by cases args; simp_all
  obtain ⟨rfl, rfl⟩ := trodVars_none hV
  have hall : ∀ n ∈ DataW.weightsEach Tryd.prog [25, 29] [d0, d1], n ≤ reachBytes := fun n hn => by simpa using List.all_eq_true.1 hsz n (by simpa using hn)
  have lt0 : ∀ x ∈ p0, x.block < W.heap.size := by obtain ⟨m, hm⟩ := h0; exact DataW.trod_lt m _ _ _ hm
  have s0 : Small Tryd.prog 25 d0 := fun n hn => hall n (List.mem_append_left _ hn)
  obtain ⟨x00, x01, x02, x0A, x0a, x03, x0B, x0b, x04, rfl, x0g, x0e, x0h, x0f, x0w⟩ := arg_box (hval 0 25 v0 rfl rfl) s0 h0
  have lt1 : ∀ x ∈ p1, x.block < W.heap.size := by obtain ⟨m, hm⟩ := h1; exact DataW.trod_lt m _ _ _ hm
  have s1 : Small Tryd.prog 29 d1 := fun n hn => hall n (List.mem_append_right _ (List.mem_append_left _ hn))
  obtain ⟨x1A, x1a, x15, x1B, x1b, x16, rfl, x1g, x1e, x1h, x1f, x1w⟩ := arg_msg (hval 1 29 v1 rfl rfl) s1 h1
  refine (ViewsShowTheirMailbox_walk x00 x01 x02 x0A x0a x03 x0B x0b x04 x1A x1a x15 x1B x1b x16 W x0w x0g x0e x0h x0f x1w x1g x1e x1h x1f).mono fun e W' ⟨he, bel⟩ => ?_
  subst he
  exact ⟨_, rfl, _, _, _, [], _, [], hW', trodAll_mk1 (shut_bool Tryd.underlying4 _), (trodAll_cons_mk (Below.trod laidOut (by kernel_rfl) (of_decide_eq_true (by kernel_rfl)) h0 bel lt0) (trodAll_cons_mk (Below.trod laidOut (by kernel_rfl) (of_decide_eq_true (by kernel_rfl)) h1 bel lt1) trodAll_mk0)), rfl, bel.frame _, fun h => by cases h⟩
theorem said : Rows.ViewsShowTheirMailboxSaid :=
  OpenClaim.holds_of_wide 3 Tryd.f3 rfl rfl rfl rfl rfl rfl rfl ⟨rfl, rfl, rfl, rfl, rfl⟩ rfl rfl rfl rfl rfl (by kernel_rfl) Tryd.func3 (by kernel_rfl)
    (of_decide_eq_true (by kernel_rfl)) (by unfold Func.isWrapper; first | (rw [if_pos (by decide +kernel)]; kernel_rfl) | (rw [if_neg (by decide +kernel)]; exact ⟨rfl, rfl⟩))
    (fun os started H enc _ => lifted os started H enc)
theorem plain (f : FuncId) (fn : Func) (hf : Tryd.pinned.checked.prog.funcNamed "posthouse/posthouselaw8.ViewsShowTheirMailbox" = some f) (hfn : Tryd.pinned.checked.prog.funcs[f]? = some fn) :
    false = Tryd.pinned.checked.prog.looks [] ∧ ∀ (j : Nat) t, fn.params[j]? = some t → Tryd.pinned.checked.prog.wantsStandIn t = false := by
  obtain rfl : f = 3 := Option.some.inj ((show Tryd.prog.funcNamed "posthouse/posthouselaw8.ViewsShowTheirMailbox" = some 3 by kernel_rfl).symm.trans hf) |>.symm
  obtain rfl : fn = Tryd.f3 := (Option.some.inj (Tryd.func3.symm.trans hfn)).symm
  refine ⟨by kernel_rfl, fun j t ht => ?_⟩
  rw [Tryd.params3] at ht
  have hm : t ∈ [25, 29] := by simpa using Array.mem_of_getElem? ht
  have hall : ([25, 29].all fun u => !Tryd.prog.wantsStandIn u) = true := by kernel_rfl
  exact (show Tryd.prog.wantsStandIn t = false by simpa using List.all_eq_true.1 hall t hm)
theorem card : Rows.ViewsShowTheirMailboxCardSaid :=
  Claim7.holds_tied_plain_at .later [] _ _ _ _ said (fun _ h => by cases h) (by kernel_rfl) (fun _ h => by cases h) viewsShowTheirMailbox_row_tie rfl ⟨rfl, rfl⟩ (by kernel_rfl) rfl plain (by kernel_rfl)
end Go.Proofs.YtjmnaipoccpbmaaDoor.viewsShowTheirMailbox
namespace Go.Proofs.YtjmnaipoccpbmaaDoor
theorem ViewsShowTheirMailbox_card : Rows.ViewsShowTheirMailboxCardSaid := viewsShowTheirMailbox.card
end Go.Proofs.YtjmnaipoccpbmaaDoor
