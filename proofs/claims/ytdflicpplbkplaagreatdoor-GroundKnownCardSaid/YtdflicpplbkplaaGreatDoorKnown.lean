/- GroundKnown returns true (its card); no condition. -/
import Derived.Test.YtdflicpplbkplaaGreatDoorCtx
import Derived.Test.YtdflicpplbkplaaGreatDoorCards
import Derived.Test.YtdflicpplbkplaaGreatDoorMemoM
/-
  THE CARD OF GroundKnown, from a run of the abstract machine.
-/
namespace Go.Proofs.YtdflicpplbkplaaGreatDoor
open Go Go.AM Go.ChangeShapes Go.WideShapes Go.ChangeAt Go.RowKit

set_option maxRecDepth 100000 in
theorem known_lifted (hrun : ∃ H, callF Tryz.C (exW Tryz.C) 7 [] Heap.empty = some (.ret (.bool true), H)) (os : Os) (started : os.Started) (H : Type) (enc : TypeId × Value → H) :
    ReturnsInHanded {} Tryz.checked os 7 .any (fun w args => (Rows.groundKnownSpec.pre enc Tryz.prog Tryz.f7 [] false w args ∧ laidMetH Tryz.prog laidL w) ∧ sizedMet enc Tryz.prog Tryz.f7 (OpenSpec.ofChange Rows.groundKnownSpec) false w args)
      (Rows.groundKnownSpec.post enc Tryz.prog Tryz.f7 false true false false) := by
  obtain ⟨H0, hrun⟩ := hrun
  refine returnsInHanded_of_change_and (C := Tryz.checked) (X := fun w _ => laidMetH Tryz.prog laidL w) (fun _ _ _ hh h => h.of_heap hh) own started (by kernel_rfl) Tryz.func7
    (ChangeSpec.witness_shaped (enc := enc) (C := Tryz.checked) (os := os) (X := fun w _ => laidMetH Tryz.prog laidL w) false (World.laidAll Tryz.prog os laidL) #[] 8 (World.laidAll_os _ _ _)
      (World.shaped_of_ZipB (by kernel_rfl) (by kernel_rfl)) (by kernel_rfl) (by kernel_rfl) (by kernel_rfl)
      (by rw [MakeChecks.laidMetH_plain _ _ _ (by kernel_rfl)]; exact laidMet_laidAll _ (by kernel_rfl) (by kernel_rfl))) ?_
  intro W base args ds gs before hval0 hW _ _ hL _
  have hW' := hW
  obtain ⟨p, q, hA0, hV, rfl, _, _⟩ := hW
  have hA : DataW.TrodAll enc Tryz.prog W 0 (fun _ => true) true Tryz.f7.params.toList args.toList ds p := hA0
  rw [Tryz.params7] at hA
  obtain ⟨rfl, rfl, rfl⟩ := trodAll_none hA
  obtain ⟨rfl, rfl⟩ := trodVars_none hV
  simp only [List.append_nil] at hW'
  refine (calls_of_run hL hrun (us := []) fun γ => .nil).mono fun e W' ⟨v, he, ⟨γ, hv⟩, hk⟩ => ?_
  subst he
  cases hv
  exact ⟨_, rfl, _, _, _, [], [], [], hW', trodAll_mk1 (shut_bool Tryz.underlying4 _), rfl, rfl, World.keptBut_mono (fun _ h => h.elim) hk, fun h => by cases h⟩

theorem known_holds (hrun : ∃ H, callF Tryz.C (exW Tryz.C) 7 [] Heap.empty = some (.ret (.bool true), H)) : Rows.GroundKnownSaid :=
  OpenClaim.holds_of_wide 7 Tryz.f7 rfl rfl rfl rfl rfl rfl rfl ⟨rfl, rfl, rfl, rfl, rfl⟩ rfl rfl rfl rfl rfl (by kernel_rfl) Tryz.func7 (by kernel_rfl)
    (of_decide_eq_true (by kernel_rfl)) (by unfold Func.isWrapper; first | (rw [if_pos (by decide +kernel)]; kernel_rfl) | (rw [if_neg (by decide +kernel)]; exact ⟨rfl, rfl⟩))
    (fun os started H enc _ => known_lifted hrun os started H enc)

theorem known_card (hrun : ∃ H, callF Tryz.C (exW Tryz.C) 7 [] Heap.empty = some (.ret (.bool true), H)) : Rows.GroundKnownCardSaid :=
  Claim7.holds_tied_plain_at .later [] [.data, .data, .data, .data, .data] true (true, "b98e849cc45b36c37f5ad5d057ca5689126fc4a06d3e7f63054a04f637076709") true (known_holds hrun) (fun _ h => by cases h) (by kernel_rfl) (fun _ h => by cases h) groundKnown_row_tie rfl ⟨rfl, rfl⟩ (by kernel_rfl) rfl
    (fun f fn hf hfn => by
      obtain rfl : f = 7 := Option.some.inj ((show Tryz.prog.funcNamed "haruspex/haruspexlaw40.GroundKnown" = some 7 by kernel_rfl).symm.trans hf) |>.symm
      obtain rfl : fn = Tryz.f7 := (Option.some.inj (Tryz.func7.symm.trans hfn)).symm
      exact ⟨by kernel_rfl, fun j t ht => by
        rw [Tryz.params7] at ht
        simp at ht⟩)
    (by kernel_rfl)

end Go.Proofs.YtdflicpplbkplaaGreatDoor

/-
  GroundKnown returns true: the card, closed.
-/
namespace Go.Proofs.YtdflicpplbkplaaGreatDoor
open Go Go.AM

theorem known_run : ∃ H, callF Tryz.C (exW Tryz.C) 7 [] Heap.empty = some (.ret (.bool true), H) :=
  ⟨Heap.empty, PureW.callF (r31 (7, [], .bool true) List.mem_cons_self) (by kernel_rfl)⟩

theorem known : Rows.GroundKnownCardSaid := known_card known_run
#print axioms known
end Go.Proofs.YtdflicpplbkplaaGreatDoor
