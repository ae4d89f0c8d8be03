/- RightsAppended returns true at every input: appending a grant adds exactly its seconds in its regions, appending a withdrawal removes them; other items, regions and kinds of clauses change nothing. Condition: the package-level variables that the row lists hold what they are laid with (the card ties this to the program's text). -/
import Derived.Test.YtpefhdjkpdjdpaaGreatDoorCards
import Derived.Test.YtpefhdjkpdjdpaaGreatDoorTie
import Derived.SevenTiedAt
import Derived.Test.YtpefhdjkpdjdpaaGreatDoorLp6
namespace Go.Proofs.YtpefhdjkpdjdpaaGreatDoor.R
open Go Go.ChangeShapes Go.WideShapes Go.ChangeAt Go.Deep Go.RowKit Go.Proofs.YtpefhdjkpdjdpaaGreatDoorW.PrintWords Go.Proofs.YtpefhdjkpdjdpaaGreatDoorW.PrintLast Go.Proofs.YtpefhdjkpdjdpaaGreatDoorW.PrintMore

theorem said7_a : Tryz.pinned.checked.prog.funcNamed Rows.rightsAppendedRow.func = some 7 := by kernel_rfl
theorem said7_b : joinedFacts Tryz.pinned.checked.prog 7 Tryz.f7 (OpenSpec.ofChange Rows.rightsAppendedSpec).bare Rows.rightsAppendedRow = true := by kernel_rfl
theorem said7_c : Func.isInstance Tryz.pinned.checked.prog Tryz.f7 Rows.rightsAppendedRow.origin Rows.rightsAppendedRow.targs := of_decide_eq_true (by kernel_rfl)
theorem said7_d : Func.isWrapper Tryz.pinned.checked.prog Tryz.f7 Rows.rightsAppendedRow.wrapper Rows.rightsAppendedRow.mainSum := by
  unfold Func.isWrapper
  first | (rw [if_pos (by decide +kernel)]; kernel_rfl) | (rw [if_neg (by decide +kernel)]; exact ⟨rfl, rfl⟩)
theorem said7 : Rows.RightsAppendedSaid :=
  OpenClaim.holds_of_cond 7 Tryz.f7 rfl rfl rfl rfl rfl rfl rfl ⟨rfl, rfl, rfl, rfl, rfl⟩ rfl rfl rfl rfl rfl said7_a Tryz.func7 said7_b said7_c said7_d
    (fun os started H enc _ F => by rw [OpenClaim.pre_eq_preRow]; exact lifted7 os started H enc F)
theorem plain7 (f : FuncId) (fn : Func) (hf : Tryz.pinned.checked.prog.funcNamed "onair/onairlaw06.RightsAppended" = some f) (hfn : Tryz.pinned.checked.prog.funcs[f]? = some fn) :
    true = Tryz.pinned.checked.prog.looks [] ∧ ∀ (j : Nat) t, fn.params[j]? = some t → Tryz.pinned.checked.prog.wantsStandIn t = false := by
  obtain rfl : f = 7 := Option.some.inj ((show Tryz.prog.funcNamed "onair/onairlaw06.RightsAppended" = some 7 by kernel_rfl).symm.trans hf) |>.symm
  obtain rfl : fn = Tryz.f7 := (Option.some.inj (Tryz.func7.symm.trans hfn)).symm
  refine ⟨by kernel_rfl, fun j t ht => ?_⟩
  rw [Tryz.params7] at ht
  have ht2 : t = 22 ∨ t = 40 ∨ t = 3 := by
    have := Array.mem_of_getElem? ht
    simp at this
    omega
  rcases ht2 with rfl | rfl | rfl
  · exact (show Tryz.prog.wantsStandIn 22 = false by kernel_rfl)
  · exact (show Tryz.prog.wantsStandIn 40 = false by kernel_rfl)
  · exact (show Tryz.prog.wantsStandIn 3 = false by kernel_rfl)
end Go.Proofs.YtpefhdjkpdjdpaaGreatDoor.R
namespace Go.Proofs.YtpefhdjkpdjdpaaGreatDoor
open Go
theorem rightsAppended_card : Rows.RightsAppendedCardSaid :=
  Claim7.holds_tied_plain_at .later [] _ _ _ _ R.said7 (fun _ h => by cases h) (by kernel_rfl) (fun _ h => by cases h) rightsAppended_row_tie rfl ⟨rfl, rfl⟩ (by kernel_rfl) rfl R.plain7 (by kernel_rfl)
end Go.Proofs.YtpefhdjkpdjdpaaGreatDoor
