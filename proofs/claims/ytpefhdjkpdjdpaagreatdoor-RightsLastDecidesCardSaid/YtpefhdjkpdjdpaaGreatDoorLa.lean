/- RightsLastDecides returns true at every input: an item may be shown at a second exactly if the last valid clause about it that contains the second and the region is a grant. Condition: the package-level variables that the row lists hold what they are laid with (the card ties this to the program's text). -/
import Derived.Test.YtpefhdjkpdjdpaaGreatDoorCards
import Derived.Test.YtpefhdjkpdjdpaaGreatDoorTie
import Derived.SevenTiedAt
import Derived.Test.YtpefhdjkpdjdpaaGreatDoorLa1
namespace Go.Proofs.YtpefhdjkpdjdpaaGreatDoor.R
open Go Go.ChangeShapes Go.WideShapes Go.ChangeAt Go.Deep Go.RowKit Go.Proofs.YtpefhdjkpdjdpaaGreatDoorW.PrintWords Go.Proofs.YtpefhdjkpdjdpaaGreatDoorW.PrintLast Go.Proofs.YtpefhdjkpdjdpaaGreatDoorW.PrintMore

theorem said5 : Rows.RightsLastDecidesSaid :=
  OpenClaim.holds_of_cond 5 Tryz.f5 rfl rfl rfl rfl rfl rfl rfl ⟨rfl, rfl, rfl, rfl, rfl⟩ rfl rfl rfl rfl rfl (by kernel_rfl) Tryz.func5 (by kernel_rfl)
    (of_decide_eq_true (by kernel_rfl)) (by unfold Func.isWrapper; first | (rw [if_pos (by decide +kernel)]; kernel_rfl) | (rw [if_neg (by decide +kernel)]; exact ⟨rfl, rfl⟩))
    (fun os started H enc _ F => by rw [OpenClaim.pre_eq_preRow]; exact lifted5 os started H enc F)
theorem plain5 (f : FuncId) (fn : Func) (hf : Tryz.pinned.checked.prog.funcNamed "onair/onairlaw06.RightsLastDecides" = some f) (hfn : Tryz.pinned.checked.prog.funcs[f]? = some fn) :
    true = Tryz.pinned.checked.prog.looks [] ∧ ∀ (j : Nat) t, fn.params[j]? = some t → Tryz.pinned.checked.prog.wantsStandIn t = false := by
  obtain rfl : f = 5 := Option.some.inj ((show Tryz.prog.funcNamed "onair/onairlaw06.RightsLastDecides" = some 5 by kernel_rfl).symm.trans hf) |>.symm
  obtain rfl : fn = Tryz.f5 := (Option.some.inj (Tryz.func5.symm.trans hfn)).symm
  refine ⟨by kernel_rfl, fun j t ht => ?_⟩
  rw [Tryz.params5] at ht
  have ht2 : t = 22 ∨ t = 3 := by
    have := Array.mem_of_getElem? ht
    simp at this
    omega
  rcases ht2 with rfl | rfl
  · exact (show Tryz.prog.wantsStandIn 22 = false by kernel_rfl)
  · exact (show Tryz.prog.wantsStandIn 3 = false by kernel_rfl)
end Go.Proofs.YtpefhdjkpdjdpaaGreatDoor.R
namespace Go.Proofs.YtpefhdjkpdjdpaaGreatDoor
open Go
theorem rightsLastDecides_card : Rows.RightsLastDecidesCardSaid :=
  Claim7.holds_tied_plain_at .later [] _ _ _ _ R.said5 (fun _ h => by cases h) (by kernel_rfl) (fun _ h => by cases h) rightsLastDecides_row_tie rfl ⟨rfl, rfl⟩ (by kernel_rfl) rfl R.plain5 (by kernel_rfl)
end Go.Proofs.YtpefhdjkpdjdpaaGreatDoor
