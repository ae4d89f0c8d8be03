/- RightsLookupsMatchReference returns true at every input: Spans, Runs, Gap, Catchup and Watersheds agree with the reference implementation. Condition: the package-level variables that the row lists hold what they are laid with (the card ties this to the program's text). -/
import Derived.Test.YtpefhdjkpdjdpaaGreatDoorCards
import Derived.Test.YtpefhdjkpdjdpaaGreatDoorTie
import Derived.SevenTiedAt
import Derived.Test.YtpefhdjkpdjdpaaGreatDoorLn7
namespace Go.Proofs.YtpefhdjkpdjdpaaGreatDoor.R
open Go Go.ChangeShapes Go.WideShapes Go.ChangeAt Go.Deep Go.RowKit Go.Proofs.YtpefhdjkpdjdpaaGreatDoorW.PrintWords Go.Proofs.YtpefhdjkpdjdpaaGreatDoorW.PrintLast Go.Proofs.YtpefhdjkpdjdpaaGreatDoorW.PrintMore

theorem said4_a : Tryz.pinned.checked.prog.funcNamed Rows.rightsLookupsMatchReferenceRow.func = some 4 := by kernel_rfl
theorem said4_b : joinedFacts Tryz.pinned.checked.prog 4 Tryz.f4 (OpenSpec.ofChange Rows.rightsLookupsMatchReferenceSpec).bare Rows.rightsLookupsMatchReferenceRow = true := by kernel_rfl
theorem said4_c : Func.isInstance Tryz.pinned.checked.prog Tryz.f4 Rows.rightsLookupsMatchReferenceRow.origin Rows.rightsLookupsMatchReferenceRow.targs := of_decide_eq_true (by kernel_rfl)
theorem said4_d : Func.isWrapper Tryz.pinned.checked.prog Tryz.f4 Rows.rightsLookupsMatchReferenceRow.wrapper Rows.rightsLookupsMatchReferenceRow.mainSum := by
  unfold Func.isWrapper
  first | (rw [if_pos (by decide +kernel)]; kernel_rfl) | (rw [if_neg (by decide +kernel)]; exact ⟨rfl, rfl⟩)
theorem said4 : Rows.RightsLookupsMatchReferenceSaid :=
  OpenClaim.holds_of_cond 4 Tryz.f4 rfl rfl rfl rfl rfl rfl rfl ⟨rfl, rfl, rfl, rfl, rfl⟩ rfl rfl rfl rfl rfl said4_a Tryz.func4 said4_b said4_c said4_d
    (fun os started H enc _ F => by rw [OpenClaim.pre_eq_preRow]; exact lifted4 os started H enc F)
theorem plain4 (f : FuncId) (fn : Func) (hf : Tryz.pinned.checked.prog.funcNamed "onair/onairlaw06.RightsLookupsMatchReference" = some f) (hfn : Tryz.pinned.checked.prog.funcs[f]? = some fn) :
    true = Tryz.pinned.checked.prog.looks [] ∧ ∀ (j : Nat) t, fn.params[j]? = some t → Tryz.pinned.checked.prog.wantsStandIn t = false := by
  obtain rfl : f = 4 := Option.some.inj ((show Tryz.prog.funcNamed "onair/onairlaw06.RightsLookupsMatchReference" = some 4 by kernel_rfl).symm.trans hf) |>.symm
  obtain rfl : fn = Tryz.f4 := (Option.some.inj (Tryz.func4.symm.trans hfn)).symm
  refine ⟨by kernel_rfl, fun j t ht => ?_⟩
  rw [Tryz.params4] at ht
  have ht2 : t = 22 ∨ t = 3 := by
    have := Array.mem_of_getElem? ht
    simp at this
    omega
  rcases ht2 with rfl | rfl
  · exact (show Tryz.prog.wantsStandIn 22 = false by kernel_rfl)
  · exact (show Tryz.prog.wantsStandIn 3 = false by kernel_rfl)
end Go.Proofs.YtpefhdjkpdjdpaaGreatDoor.R
namespace Go.Proofs.YtpefhdjkpdjdpaaGreatDoor
open Go
theorem rightsLookupsMatchReference_card : Rows.RightsLookupsMatchReferenceCardSaid :=
  Claim7.holds_tied_plain_at .later [] _ _ _ _ R.said4 (fun _ h => by cases h) (by kernel_rfl) (fun _ h => by cases h) rightsLookupsMatchReference_row_tie rfl ⟨rfl, rfl⟩ (by kernel_rfl) rfl R.plain4 (by kernel_rfl)
end Go.Proofs.YtpefhdjkpdjdpaaGreatDoor
