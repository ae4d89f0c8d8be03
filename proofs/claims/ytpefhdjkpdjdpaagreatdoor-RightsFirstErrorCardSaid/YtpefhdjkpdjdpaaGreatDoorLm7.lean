/- Parts of the proof, merged out of this seat's texts by a program of this claim. -/
import Derived.Test.YtpefhdjkpdjdpaaGreatDoorRows
import Derived.Deep.Slices
import Derived.Deep.Fields
import Derived.ChangeSame
import Derived.Carry
import Derived.LaidLaws
import Derived.LaidSub
import Derived.LaidMore
import Derived.MakeChecks
import Derived.Shelf.Vars
import Derived.WalkKit
import Derived.ProofKit
import Derived.OpenShut
import Derived.Deep.DeepHandedRow
import Derived.Deep.DeepWitnessRowRef
import Derived.Lib.LaidTab
import Derived.Test.YtpefhdjkpdjdpaaGreatDoorChecked
import Derived.Test.YtpefhdjkpdjdpaaGreatDoorProg
import Derived.Below
import Derived.Deep.Draws
import Derived.Deep.AppendLies
import Derived.Maps.AppendAt
import Derived.OwnWalk
import Derived.Laws.BytesArg
import Derived.Laws.MakeOwn
import Derived.Laws.OwnMore
import Derived.Deep.OwnRows
import Derived.Tactics
import Derived.Lib.ConvBytes
import Derived.Laws.Slices
import Derived.KernelRfl
import Derived.RowKit3
import Derived.Deep.LoopGhost
import Derived.Deep.QuietTactic
import Derived.BigQuiet
import Derived.WideLaws
import Derived.Deep.DeepCutAuto
import Derived.Deep.CutBlock
import Derived.Deep.RegionHeld3
import Derived.Laws.Rows
import Derived.Lib.AppendStr
import Derived.ArgAppend
import Derived.Laws.IdiomCopy
import Derived.OrdersHeld
import Derived.Laws.BitsLemmas
import Derived.RowKit
import Derived.Test.YtpefhdjkpdjdpaaGreatDoorLm6
namespace Go.Proofs.YtpefhdjkpdjdpaaGreatDoor.R
open Go Go.RowKit Go.Proofs.YtpefhdjkpdjdpaaGreatDoorW.PrintWords Go.Proofs.YtpefhdjkpdjdpaaGreatDoorW.PrintLast Go.Proofs.YtpefhdjkpdjdpaaGreatDoorW.PrintMore
theorem flat8_get : ∀ (xs : List S40) (j : Nat) (p : S40), xs[j]? = some p → ∀ i u, (cells8 p)[i]? = some u → (xs.flatMap cells8)[j * 8 + i]? = some u
  | [], j, p, h, _, _, _ => by simp at h
  | a :: r, 0, p, h, i, u, hu => by
    obtain rfl : a = p := by simpa using h
    have hi : i < 8 := by have := (List.getElem?_eq_some_iff.1 hu).1; exact this
    rw [List.flatMap_cons, Nat.zero_mul, Nat.zero_add, List.getElem?_append_left (by exact hi)]
    exact hu
  | a :: r, j + 1, p, h, i, u, hu => by
    have ih := flat8_get r j p (by simpa using h) i u hu
    rw [List.flatMap_cons, List.getElem?_append_right (by show 8 ≤ _; omega)]
    rw [show (j + 1) * 8 + i - (cells8 a).length = j * 8 + i by show _ - 8 = _; omega]
    exact ih
theorem C40_new (W : World) (l : List S40) (h : l.length ≤ 9223372036854775807) : Kd.C k40 (W.alloc (.cells (l.flatMap cells8).toArray 40 (0, 0))) (some ⟨W.heap.size, 0, none⟩) l.length l :=
  ⟨rfl, h, fun _ => ⟨_, rfl, fun j p hj => ⟨cells8 p, rfl, k40_mk _ _, fun i u hu => new_cells W (l.flatMap cells8) 40 _ rfl _ u (flat8_get l j p hj i u hu)⟩⟩⟩
theorem flat2_get2 : ∀ (xs : List S65) (j : Nat) (p : S65), xs[j]? = some p → ∀ i u, (enc2 p)[i]? = some u → (xs.flatMap enc2)[j * 2 + i]? = some u
  | [], j, p, h, _, _, _ => by simp at h
  | a :: r, 0, p, h, i, u, hu => by
    obtain rfl : a = p := by simpa using h
    have hi : i < 2 := by have := (List.getElem?_eq_some_iff.1 hu).1; exact this
    rw [List.flatMap_cons, Nat.zero_mul, Nat.zero_add, List.getElem?_append_left (by exact hi)]
    exact hu
  | a :: r, j + 1, p, h, i, u, hu => by
    have ih := flat2_get2 r j p (by simpa using h) i u hu
    rw [List.flatMap_cons, List.getElem?_append_right (by show 2 ≤ _; omega)]
    rw [show (j + 1) * 2 + i - (enc2 a).length = j * 2 + i by show _ - 2 = _; omega]
    exact ih
theorem C65_new (W : World) (l : List S65) (h : l.length ≤ 9223372036854775807) : Kd.C k65 (W.alloc (.cells (l.flatMap enc2).toArray 65 (0, 0))) (some ⟨W.heap.size, 0, none⟩) l.length l :=
  ⟨rfl, h, fun _ => ⟨_, rfl, fun j p hj => ⟨enc2 p, rfl, k65_mk _ _, fun i u hu => new_cells W (l.flatMap enc2) 65 _ rfl _ u (flat2_get2 l j p hj i u hu)⟩⟩⟩
def sS : List S65 := [⟨1000, 3000⟩, ⟨4000, 9000⟩]
def sW : List S65 := [⟨75600, 19800⟩]
def onairlaw06_sane.f : Option Bool := some true
set_option maxRecDepth 100000 in
set_option maxHeartbeats 8000000 in
theorem onairlaw06_sane.calls (r : Bool) (w : World) (h : onairlaw06_sane.f = some r) (hT : TabW w) : Calls Tryz.prog 8 #[] w fun e w' => e = .returned (.bool r) ∧ Below w.heap.size w w' := by
  obtain rfl : true = r := Option.some.inj h
  clear h
  have hu40 := Tryz.underlying40
  have hu65 := Tryz.underlying65
  have hb4 : Below w.heap.size w ((((w.alloc (.cells #[.int .i64 1, .int .i64 12, .int .i64 1000, .int .i64 9000, .int .i64 255, .int .i64 0, .int .i64 0, .int .i64 0] 40)).alloc (.cells #[.int .i64 2, .int .i64 12, .int .i64 3000, .int .i64 4000, .int .i64 2, .int .i64 0, .int .i64 0, .int .i64 0] 40)).alloc (.cells #[.int .i64 6, .int .i64 0, .int .i64 75600, .int .i64 19800, .int .i64 0, .int .i64 0, .int .i64 2, .int .i64 0] 40)).alloc (.cells #[.int .i64 5, .int .i64 0, .int .i64 0, .int .i64 0, .int .i64 0, .int .i64 900, .int .i64 3, .int .i64 7] 40)) := below_alloc (below_alloc (below_alloc (below_alloc (Below.refl _ _) _) _) _) _
  have hs4 : (((((w.alloc (.cells #[.int .i64 1, .int .i64 12, .int .i64 1000, .int .i64 9000, .int .i64 255, .int .i64 0, .int .i64 0, .int .i64 0] 40)).alloc (.cells #[.int .i64 2, .int .i64 12, .int .i64 3000, .int .i64 4000, .int .i64 2, .int .i64 0, .int .i64 0, .int .i64 0] 40)).alloc (.cells #[.int .i64 6, .int .i64 0, .int .i64 75600, .int .i64 19800, .int .i64 0, .int .i64 0, .int .i64 2, .int .i64 0] 40)).alloc (.cells #[.int .i64 5, .int .i64 0, .int .i64 0, .int .i64 0, .int .i64 0, .int .i64 900, .int .i64 3, .int .i64 7] 40))).heap.size = w.heap.size + 1 + 1 + 1 + 1 := by simp
  have hC := C40_new ((((w.alloc (.cells #[.int .i64 1, .int .i64 12, .int .i64 1000, .int .i64 9000, .int .i64 255, .int .i64 0, .int .i64 0, .int .i64 0] 40)).alloc (.cells #[.int .i64 2, .int .i64 12, .int .i64 3000, .int .i64 4000, .int .i64 2, .int .i64 0, .int .i64 0, .int .i64 0] 40)).alloc (.cells #[.int .i64 6, .int .i64 0, .int .i64 75600, .int .i64 19800, .int .i64 0, .int .i64 0, .int .i64 2, .int .i64 0] 40)).alloc (.cells #[.int .i64 5, .int .i64 0, .int .i64 0, .int .i64 0, .int .i64 0, .int .i64 900, .int .i64 3, .int .i64 7] 40)) sL (by decide)
  rw [hs4] at hC
  have hC0 : Kd.C k40 (((((w.alloc (.cells #[.int .i64 1, .int .i64 12, .int .i64 1000, .int .i64 9000, .int .i64 255, .int .i64 0, .int .i64 0, .int .i64 0] 40)).alloc (.cells #[.int .i64 2, .int .i64 12, .int .i64 3000, .int .i64 4000, .int .i64 2, .int .i64 0, .int .i64 0, .int .i64 0] 40)).alloc (.cells #[.int .i64 6, .int .i64 0, .int .i64 75600, .int .i64 19800, .int .i64 0, .int .i64 0, .int .i64 2, .int .i64 0] 40)).alloc (.cells #[.int .i64 5, .int .i64 0, .int .i64 0, .int .i64 0, .int .i64 0, .int .i64 900, .int .i64 3, .int .i64 7] 40)).alloc (.cells #[.int .i64 1, .int .i64 12, .int .i64 1000, .int .i64 9000, .int .i64 255, .int .i64 0, .int .i64 0, .int .i64 0, .int .i64 2, .int .i64 12, .int .i64 3000, .int .i64 4000, .int .i64 2, .int .i64 0, .int .i64 0, .int .i64 0, .int .i64 6, .int .i64 0, .int .i64 75600, .int .i64 19800, .int .i64 0, .int .i64 0, .int .i64 2, .int .i64 0, .int .i64 5, .int .i64 0, .int .i64 0, .int .i64 0, .int .i64 0, .int .i64 900, .int .i64 3, .int .i64 7, .int .i64 3, .int .i64 12, .int .i64 0, .int .i64 0, .int .i64 1, .int .i64 3, .int .i64 0, .int .i64 0] 40)) (some ⟨w.heap.size + 1 + 1 + 1 + 1, 0, none⟩) 5 sL := hC
  clear hC
  have hbS : Below w.heap.size w (((((w.alloc (.cells #[.int .i64 1, .int .i64 12, .int .i64 1000, .int .i64 9000, .int .i64 255, .int .i64 0, .int .i64 0, .int .i64 0] 40)).alloc (.cells #[.int .i64 2, .int .i64 12, .int .i64 3000, .int .i64 4000, .int .i64 2, .int .i64 0, .int .i64 0, .int .i64 0] 40)).alloc (.cells #[.int .i64 6, .int .i64 0, .int .i64 75600, .int .i64 19800, .int .i64 0, .int .i64 0, .int .i64 2, .int .i64 0] 40)).alloc (.cells #[.int .i64 5, .int .i64 0, .int .i64 0, .int .i64 0, .int .i64 0, .int .i64 900, .int .i64 3, .int .i64 7] 40)).alloc (.cells #[.int .i64 1, .int .i64 12, .int .i64 1000, .int .i64 9000, .int .i64 255, .int .i64 0, .int .i64 0, .int .i64 0, .int .i64 2, .int .i64 12, .int .i64 3000, .int .i64 4000, .int .i64 2, .int .i64 0, .int .i64 0, .int .i64 0, .int .i64 6, .int .i64 0, .int .i64 75600, .int .i64 19800, .int .i64 0, .int .i64 0, .int .i64 2, .int .i64 0, .int .i64 5, .int .i64 0, .int .i64 0, .int .i64 0, .int .i64 0, .int .i64 900, .int .i64 3, .int .i64 7, .int .i64 3, .int .i64 12, .int .i64 0, .int .i64 0, .int .i64 1, .int .i64 3, .int .i64 0, .int .i64 0] 40)) := below_alloc hb4 _
  obtain ⟨s1, hs1⟩ : ∃ s1, tx sT = s1 := ⟨_, rfl⟩
  have hz1 : s1.size = 136 := by rw [← hs1]; rfl
  have hst : (s1.toList = [103, 114, 97, 110, 116, 32, 49, 50, 32, 102, 114, 111, 109, 32, 49, 48, 48, 48, 32, 116, 111, 32, 57, 48, 48, 48, 32, 105, 110, 32, 97, 108, 108, 10, 119, 105, 116, 104, 100, 114, 97, 119, 32, 49, 50, 32, 102, 114, 111, 109, 32, 51, 48, 48, 48, 32, 116, 111, 32, 52, 48, 48, 48, 32, 105, 110, 32, 49, 10, 119, 97, 116, 101, 114, 115, 104, 101, 100, 32, 50, 32, 102, 114, 111, 109, 32, 50, 49, 58, 48, 48, 32, 116, 111, 32, 48, 53, 58, 51, 48, 10, 99, 111, 109, 112, 101, 116, 101, 32, 51, 32, 55, 32, 103, 97, 112, 32, 57, 48, 48, 10, 114, 117, 110, 115, 32, 49, 50, 32, 51, 32, 105, 110, 32, 48, 10]) = True := eq_true (by rw [← hs1, tx_toList]; rfl)
  have hstb : (s1.toList == [103, 114, 97, 110, 116, 32, 49, 50, 32, 102, 114, 111, 109, 32, 49, 48, 48, 48, 32, 116, 111, 32, 57, 48, 48, 48, 32, 105, 110, 32, 97, 108, 108, 10, 119, 105, 116, 104, 100, 114, 97, 119, 32, 49, 50, 32, 102, 114, 111, 109, 32, 51, 48, 48, 48, 32, 116, 111, 32, 52, 48, 48, 48, 32, 105, 110, 32, 49, 10, 119, 97, 116, 101, 114, 115, 104, 101, 100, 32, 50, 32, 102, 114, 111, 109, 32, 50, 49, 58, 48, 48, 32, 116, 111, 32, 48, 53, 58, 51, 48, 10, 99, 111, 109, 112, 101, 116, 101, 32, 51, 32, 55, 32, 103, 97, 112, 32, 57, 48, 48, 10, 114, 117, 110, 115, 32, 49, 50, 32, 51, 32, 105, 110, 32, 48, 10]) = true := beq_iff_eq.2 (by rw [← hs1, tx_toList]; rfl)
  have F1 := san_print
  rw [hs1] at F1
  have F2 : rights_Parse.f ((⟨#[35, 32, 114, 105, 103, 104, 116, 115, 10, 10]⟩ : ByteArray) ++ s1) = some (sL, 0, 0) := by
    rw [← hs1]
    unfold rights_Parse.f
    rw [← san_parse]
    rfl
  have F3 : rights_Parse.f (⟨#[103, 114, 97, 110, 116, 32, 49, 50, 32, 102, 114, 111, 109, 32, 57, 32, 116, 111, 32, 57, 32, 105, 110, 32, 97, 108, 108]⟩ : ByteArray) = some ([], 1, 60) := congrArg some san_parse2
  have LEN : sL.length = 5 := rfl
  have LENS : sS.length = 2 := rfl
  have LENW : sW.length = 1 := rfl
  have P1 := rights_Print.calls (some ⟨w.heap.size + 1 + 1 + 1 + 1, 0, none⟩) 5 sL s1 0 _ hC0 (Nat.le_refl _) F1 (hT.below hbS)
  rw [LEN] at P1
  have G4 : rights_Spans.f sL 12 1 = some sS := san_f14
  have G6 : onairref06_SameSpans.f 20 sS sS = some true := san_sameS
  have G10 : rights_Watersheds.f 20 sL 2 = some sW := san_wat
  have F2' := Aside0.mk F2
  have F3' := Aside0.mk F3
  have G4' := Aside0.mk G4
  have G6' := Aside0.mk G6
  have G10' := Aside0.mk G10
  have PP1 := Aside0.mk P1
  have HC0 := Aside0.mk hC0
  have HB0 := Aside0.mk hbS
  have HT := Aside0.mk hT
  clear hC0 hbS hT F1 hb4 hs4 F2 F3 G4 G6 G10 P1
  go_enter Tryz.func8, Tryz.ntmps8
  go_wp2_with (first
    | (go_at_call 10; (with_reducible refine PP1.out.mono ?_); rintro _ w1 ⟨rfl, hb⟩; have HB1 := Aside0.mk (below_step HB0.out hb); have HC1 := Aside0.mk (Kd.C_below HC0.out hb); have P2 := Aside0.mk (rights_Parse.calls _ sL 0 0 w1 F2'.out (HT.out.below HB1.out)); clear hb)
    | (go_at_call 11; (with_reducible refine P2.out.mono ?_); rintro _ w2 ⟨v2, rfl, hR, hb⟩; have HB2 := Aside0.mk (below_step HB1.out hb); have HC2 := Aside0.mk (Kd.C_below HC1.out hb); obtain ⟨A2, c2, rfl, hl, hC⟩ := Kd.R_reads hR; rw [LEN] at hl hC ⊢; have HL2 := Aside0.mk hl; have HD2 := Aside0.mk hC; have P3 := Aside0.mk (rights_Parse.calls _ [] 1 60 w2 F3'.out (HT.out.below HB2.out)); clear hb hR hl hC)
    | (go_at_call 11; (with_reducible refine P3.out.mono ?_); rintro _ w3 ⟨v3, rfl, hR, hb⟩; have HB3 := Aside0.mk (below_step HB2.out hb); have HC3 := Aside0.mk (Kd.C_below HC2.out hb); obtain ⟨A3, c3, rfl, _, _⟩ := Kd.R_reads hR; rw [List.length_nil]; have HD3 := Aside0.mk (Kd.C_below HD2.out hb); have P4 := rights_Spans.calls (some ⟨w.heap.size + 1 + 1 + 1 + 1, 0, none⟩) 5 sL 12 1 sS w3 HC3.out (Nat.le_refl _) G4'.out; rw [LEN] at P4; have PP4 := Aside0.mk P4; clear hb hR P4)
    | (go_at_call 14; (with_reducible refine PP4.out.mono ?_); rintro _ w4 ⟨v4, rfl, hR, hb⟩; have HB4 := Aside0.mk (below_step HB3.out hb); have HC4 := Aside0.mk (Kd.C_below HC3.out hb); have HD4 := Aside0.mk (Kd.C_below HD3.out hb); obtain ⟨A4, c4, rfl, hl, hC⟩ := Kd.R_reads hR; rw [LENS] at hl hC ⊢; have HL4 := Aside0.mk hl; have HE4 := Aside0.mk hC; have P5 := onairref06_SameList.calls 20 (some ⟨w.heap.size + 1 + 1 + 1 + 1, 0, none⟩) 5 sL A2 c2 sL true w4 HC4.out (Nat.le_refl _) HD4.out HL2.out san_same; rw [LEN] at P5; have PP5 := Aside0.mk P5; clear hb hR hl hC P5)
    | (go_at_call 36; (with_reducible refine PP5.out.mono ?_); rintro _ w5 ⟨rfl, hb⟩; have HB5 := Aside0.mk (below_step HB4.out hb); have HC5 := Aside0.mk (Kd.C_below HC4.out hb); have HE5 := Aside0.mk (Kd.C_below HE4.out hb); have P6 := onairref06_SameSpans.calls 20 A4 c4 sS (some ⟨w5.heap.size, 0, none⟩) 2 sS true (w5.alloc (.cells #[.int .i64 1000, .int .i64 3000, .int .i64 4000, .int .i64 9000] 65)) (Kd.C_below HE5.out (below_alloc (Below.refl _ _) _)) HL4.out (C65_new w5 sS (by decide)) (Nat.le_refl _) G6'.out; rw [LENS] at P6; have PP6 := Aside0.mk P6; clear hb P6)
    | (go_at_call 13; (with_reducible refine PP6.out.mono ?_); rintro _ w6 ⟨rfl, hd⟩; have hb := below_step (below_alloc (Below.refl w5.heap.size w5) (.cells #[.int .i64 1000, .int .i64 3000, .int .i64 4000, .int .i64 9000] 65)) hd.below; have HB6 := Aside0.mk (below_step HB5.out hb); have HC6 := Aside0.mk (Kd.C_below HC5.out hb); have P7 := rights_Runs.calls (some ⟨w.heap.size + 1 + 1 + 1 + 1, 0, none⟩) 5 sL 12 0 3 w6 HC6.out (Nat.le_refl _) san_runs0; rw [LEN] at P7; have PP7 := Aside0.mk P7; clear hb hd P7)
    | (go_at_call 16; (with_reducible refine PP7.out.mono ?_); rintro _ w7 ⟨rfl, hb⟩; have HB7 := Aside0.mk (below_step HB6.out hb); have HC7 := Aside0.mk (Kd.C_below HC6.out hb); have P8 := rights_Runs.calls (some ⟨w.heap.size + 1 + 1 + 1 + 1, 0, none⟩) 5 sL 12 1 (-1) w7 HC7.out (Nat.le_refl _) san_runs1; rw [LEN] at P8; have PP8 := Aside0.mk P8; clear hb P8)
    | (go_at_call 16; (with_reducible refine PP8.out.mono ?_); rintro _ w8 ⟨rfl, hb⟩; have HB8 := Aside0.mk (below_step HB7.out hb); have HC8 := Aside0.mk (Kd.C_below HC7.out hb); have P9 := rights_Gap.calls 20 (some ⟨w.heap.size + 1 + 1 + 1 + 1, 0, none⟩) 5 sL 7 3 900 w8 HC8.out (Nat.le_refl _) san_gap; rw [LEN] at P9; have PP9 := Aside0.mk P9; clear hb P9)
    | (go_at_call 18; (with_reducible refine PP9.out.mono ?_); rintro _ w9 ⟨rfl, hb⟩; have HB9 := Aside0.mk (below_step HB8.out hb); have HC9 := Aside0.mk (Kd.C_below HC8.out hb); have P10 := rights_Watersheds.calls 20 (some ⟨w.heap.size + 1 + 1 + 1 + 1, 0, none⟩) 5 sL 2 sW w9 HC9.out (Nat.le_refl _) G10'.out; rw [LEN] at P10; have PP10 := Aside0.mk P10; clear hb P10)
    | (go_at_call 22; (with_reducible refine PP10.out.mono ?_); rintro _ w10 ⟨v10, rfl, hR, hb⟩; have HB10 := Aside0.mk (below_step HB9.out hb); have HC10 := Aside0.mk (Kd.C_below HC9.out hb); obtain ⟨A10, c10, rfl, _, _⟩ := Kd.R_reads hR; rw [LENW]; have PP11 := Aside0.mk (rights_Valid.calls 20 0 0 0 0 0 0 0 0 false w10 san_vld); clear hb hR)
    | (go_at_call 24; (with_reducible refine PP11.out.mono ?_); rintro _ w11 ⟨rfl, hb⟩; have HB11 := Aside0.mk (below_step HB10.out hb); clear hb))
  go_ret
  exact ⟨rfl, HB11.out⟩
end Go.Proofs.YtpefhdjkpdjdpaaGreatDoor.R
namespace Go.Proofs.YtpefhdjkpdjdpaaGreatDoor.R
open Go Go.ChangeShapes Go.WideShapes Go.ChangeAt Go.Deep Go.RowKit Go.Proofs.YtpefhdjkpdjdpaaGreatDoorW.PrintWords Go.Proofs.YtpefhdjkpdjdpaaGreatDoorW.PrintLast Go.Proofs.YtpefhdjkpdjdpaaGreatDoorW.PrintMore
section
variable {H : Type} {enc : TypeId × Value → H} {P : Program} {w : World} {base : Nat} {spare : Nat → Bool} {held : Bool}
theorem open_slice_fields {t e : TypeId} {fs : Array Field} {fuel : Nat} {cs : List Value} {x : DataW H × List MemPlace} (ht : P.underlying t = some (.slice e)) (he : P.underlying e = some (.struct fs))
    (hone : oneCellFields P fs = true) (hC : P.cellsOf e = fs.size) (h : DataW.trod enc P w base spare held fuel t cs = some x) :
    (cs = [.slice none 0 0] ∧ x = (.nil, [])) ∨
    ∃ (a : Addr) (len cap m : Nat) (D : Nat → DataW H) (Pl : Nat → List MemPlace), cs = [.slice (some a) len cap] ∧ base ≤ a.block ∧ len ≤ cap ∧ cap ≤ maxLen ∧ m = (if spare a.block then cap else len) ∧
      x = (.slice ((List.range len).map D) ((List.range (m - len)).map fun j => D (len + j)), MemPlace.row a (m * fs.size) ++ (List.range m).flatMap Pl) ∧
      ∀ i, i < m → ∃ (ys : List (DataW H × List MemPlace)) (n : Nat), D i = .agg (ys.map (·.1)) ∧ Pl i = ys.flatMap (·.2) ∧ ys.length = fs.size ∧
        ∀ (j : Nat) (f : Field), fs[j]? = some f → ∃ (v : Value) (y : DataW H × List MemPlace), w.cell? (a.add (i * fs.size + j)) = some v ∧ ys[j]? = some y ∧ DataW.trod enc P w base spare held n f.type [v] = some y := by
  rcases open_slice ht h with h0 | ⟨a, len, cap, m, n, D, Pl, hcs, hb, hl, hm, hmm, hx, hi⟩
  · exact .inl h0
  · refine .inr ⟨a, len, cap, m, D, Pl, hcs, hb, hl, hm, hmm, by rw [hC] at hx; exact hx, fun i him => ?_⟩
    obtain ⟨cs', hc, ht'⟩ := hi i him
    rw [hC] at hc
    obtain ⟨ys, n', hn', hy, hlen, hyl, hf⟩ := DataW.trod_struct he ht'
    obtain ⟨_, hcl, hat⟩ := World.cells?_some hc
    simp only [Prod.mk.injEq] at hy
    refine ⟨ys, n', hy.1, hy.2, hyl, fun j f hj => ?_⟩
    obtain ⟨ho, hk⟩ := hone_of hone j f hj
    have hjl : j < fs.size := (Array.getElem?_eq_some_iff.1 hj).1
    have hcell := hat j hjl
    have hv : cs'[j]? = some (cs'[j]'(by omega)) := List.getElem?_eq_getElem (by omega)
    have h1 := hf j f hj
    rw [ho, hk] at h1
    have hone' : (cs'.drop j).take 1 = [cs'[j]'(by omega)] := by
      rw [List.drop_eq_getElem_cons (by omega)]
      rfl
    rw [hone'] at h1
    have hys : ys[j]? = some (ys[j]'(by omega)) := List.getElem?_eq_getElem (by omega)
    refine ⟨_, _, ?_, hys, h1.trans hys⟩
    rw [← Go.Deep.add_add, hcell, hv]
end
theorem own_ : ownKnob Tryz.prog.godebug = none := by kernel_rfl
theorem laidOut_ : laidOutB Tryz.prog = true := by kernel_rfl
abbrev fs40 : Array Field := #[⟨ "Kind", 3, 0, false, "", "", 0⟩, ⟨ "Item", 3, 1, false, "", "", 8⟩, ⟨ "From", 3, 2, false, "", "", 16⟩, ⟨ "To", 3, 3, false, "", "", 24⟩, ⟨ "Regions", 3, 4, false, "", "", 32⟩, ⟨ "N", 3, 5, false, "", "", 40⟩, ⟨ "A", 3, 6, false, "", "", 48⟩, ⟨ "B", 3, 7, false, "", "", 56⟩]
theorem u40 : Tryz.prog.underlying 40 = some (.struct fs40) := Tryz.underlying40
theorem one40 : oneCellFields Tryz.prog fs40 = true := by kernel_rfl
theorem cells40 : Tryz.prog.cellsOf 40 = 8 := by kernel_rfl
/-- The number that a cell holds. -/
def rdC (W : World) (a : Addr) (k : Nat) : Int := match W.cell? (a.add k) with
  | some (.int _ n) => n
  | _ => 0
theorem rdC_eq {W : World} {a : Addr} {k : Nat} {n : Int} (h : W.cell? (a.add k) = some (.int .i64 n)) : W.cell? (a.add k) = some (.int .i64 (rdC W a k)) := by
  rw [h]
  unfold rdC
  rw [h]
set_option maxRecDepth 100000 in
/-- A slice of clauses that came in. -/
theorem C40_of_arg {H : Type} {enc : TypeId × Value → H} {W : World} {base : Nat} {v : Value} {d : DataW H} {p : List MemPlace} (hval : Value.okWide Tryz.prog W .any base 22 v) (h : DataW.Trod enc Tryz.prog W 0 (fun _ => true) true 22 v d p) :
    ∃ (A : Option Addr) (c : Nat) (l : List S40), v = .slice A l.length c ∧ l.length ≤ c ∧ Kd.C k40 W A l.length l := by
  obtain ⟨a, len, cap, rfl⟩ := okWide_slice Tryz.underlying22 hval
  obtain ⟨fuel, hf⟩ := h
  rcases open_slice_fields Tryz.underlying22 u40 one40 cells40 hf with ⟨hcs, _⟩ | ⟨a', len', cap', m, D, Pl, hcs, _, hlc, hcm, hm, _, hi⟩
  · simp [Value.cells] at hcs
    obtain ⟨rfl, rfl, rfl⟩ := hcs
    exact ⟨none, 0, [], rfl, Nat.le_refl _, Kd.C_nil _ _⟩
  · simp [Value.cells] at hcs
    obtain ⟨rfl, rfl, rfl⟩ := hcs
    have hmm : len ≤ m := by rw [hm]; simpa using hlc
    have hcell : ∀ i, i < len → ∀ j, j < 8 → W.cell? (a'.add (i * 8 + j)) = some (.int .i64 (rdC W a' (i * 8 + j))) := fun i hil j hj => by
      obtain ⟨ys, n, _, _, _, hall⟩ := hi i (Nat.lt_of_lt_of_le hil hmm)
      have key : ∀ f, fs40[j]? = some f → f.type = 3 → W.cell? (a'.add (i * 8 + j)) = some (.int .i64 (rdC W a' (i * 8 + j))) := fun f hf hft => by
        obtain ⟨v, y, hc, _, ht⟩ := hall j f hf
        rw [hft] at ht
        obtain ⟨z, e, _, _⟩ := DataW.trod_int Tryz.underlying3 ht
        have e' : v = .int .i64 z := by simpa using e
        subst e'
        exact rdC_eq hc
      match j, hj with
      | 0, _ => exact key _ rfl rfl
      | 1, _ => exact key _ rfl rfl
      | 2, _ => exact key _ rfl rfl
      | 3, _ => exact key _ rfl rfl
      | 4, _ => exact key _ rfl rfl
      | 5, _ => exact key _ rfl rfl
      | 6, _ => exact key _ rfl rfl
      | 7, _ => exact key _ rfl rfl
    obtain ⟨l, hl⟩ : ∃ l : List S40, l = (List.range len).map fun i => ⟨rdC W a' (i * 8), rdC W a' (i * 8 + 1), rdC W a' (i * 8 + 2), rdC W a' (i * 8 + 3), rdC W a' (i * 8 + 4), rdC W a' (i * 8 + 5), rdC W a' (i * 8 + 6), rdC W a' (i * 8 + 7)⟩ := ⟨_, rfl⟩
    have hlen : l.length = len := by rw [hl]; simp
    have hmx : maxLen ≤ 9223372036854775807 := by decide
    subst hlen
    refine ⟨some a', cap, l, rfl, hlc, rfl, by omega, fun _ => ⟨a', rfl, fun j p hj => ⟨cells8 p, rfl, k40_mk _ _, fun i u hu => ?_⟩⟩⟩
    have hjl : j < l.length := (List.getElem?_eq_some_iff.1 hj).1
    have hp : p = ⟨rdC W a' (j * 8), rdC W a' (j * 8 + 1), rdC W a' (j * 8 + 2), rdC W a' (j * 8 + 3), rdC W a' (j * 8 + 4), rdC W a' (j * 8 + 5), rdC W a' (j * 8 + 6), rdC W a' (j * 8 + 7)⟩ := by
      have hj2 : ((List.range l.length).map fun i => (⟨rdC W a' (i * 8), rdC W a' (i * 8 + 1), rdC W a' (i * 8 + 2), rdC W a' (i * 8 + 3), rdC W a' (i * 8 + 4), rdC W a' (i * 8 + 5), rdC W a' (i * 8 + 6), rdC W a' (i * 8 + 7)⟩ : S40))[j]? = some p := by rw [← hl]; exact hj
      rw [List.getElem?_map, List.getElem?_range hjl] at hj2
      simpa using hj2.symm
    subst hp
    have hi8 : i < 8 := (List.getElem?_eq_some_iff.1 hu).1
    have hc := hcell j hjl i hi8
    change W.cell? (a'.add (j * 8 + i)) = some u
    rw [hc]
    match i, hi8, hu with
    | 0, _, hu => exact hu
    | 1, _, hu => exact hu
    | 2, _, hu => exact hu
    | 3, _, hu => exact hu
    | 4, _, hu => exact hu
    | 5, _, hu => exact hu
    | 6, _, hu => exact hu
    | 7, _, hu => exact hu
/-- What a list of laid variables says of one that holds an error. -/
theorem laid_err {W : World} {name : String} {g ti : Nat} {ms : Array (String × TypeId)} {nm : String} {d : DataW Unit} {rest : List (String × DataW Unit)} (hg : Tryz.prog.globalNamed name = some g) (hty : (Tryz.prog.globals[g]?).map (·.type) = some ti) (hi : Tryz.prog.underlying ti = some (.interface ms)) (h : laidMet Tryz.prog ((name, .iface nm d) :: rest) W) :
    ∃ u v, W.cell? ⟨g, 0, none⟩ = some (.iface u v) := by
  obtain ⟨ps, ⟨g', t', cs, fuel, p, q, hg', ht', hvar, hd, _, _⟩, _⟩ := h
  obtain rfl := Option.some.inj (hg.symm.trans hg')
  obtain rfl := Option.some.inj (hty.symm.trans ht')
  obtain ⟨f1, u, v, e, _, _⟩ := iface_of_trod hi hd
  have := World.var?_cell hg hvar 0
  refine ⟨u, v, this.trans ?_⟩
  obtain ⟨l⟩ := cs
  simp only at e
  subst e
  rfl
abbrev laidL : List (String × DataW Unit) := Rows.rightsLastDecidesRow.laid
theorem laid_one {W : World} (n : String) (h : laidMetH Tryz.prog laidL W) : laidMet Tryz.prog (laidL.filter fun x => x.1 == n) W := by
  rw [MakeChecks.laidMetH_plain _ _ _ (by kernel_rfl)] at h
  exact h.filter (fun x => x.1 == n)
theorem tabW_of {W : World} (h : laidMetH Tryz.prog laidL W) (hsh : W.ShapedOpen Tryz.prog) : TabW W where
  pow := by
    have h1 := laid_one "internal/strconv.uint64pow10" h
    have e : (laidL.filter fun x => x.1 == "internal/strconv.uint64pow10") = [("internal/strconv.uint64pow10", Lib.tabData .u64 Lib.pow10Tab)] := by kernel_rfl
    rw [e] at h1
    exact Lib.tabIs_of_head (rest := []) gPow (t := 331) (e := 213) (by kernel_rfl) Tryz.underlying331 Tryz.underlying213 (by kernel_rfl) (by kernel_rfl) h1
  maxLen := cell_of_shapedOpen_int (zero := #[.int .i64 0]) (t := 3) hsh (of_decide_eq_true (by kernel_rfl)) (by kernel_rfl) rfl (by kernel_rfl) (by kernel_rfl) Tryz.underlying3
  synt := by
    have h1 := laid_one "strconv.ErrSyntax" h
    have e : (laidL.filter fun x => x.1 == "strconv.ErrSyntax") = [("strconv.ErrSyntax", Rows.laid_strconv_ErrSyntax)] := by kernel_rfl
    rw [e] at h1
    exact laid_err (g := 6) (ti := 75) (by kernel_rfl) (by kernel_rfl) Tryz.underlying75 h1
  rng := by
    have h1 := laid_one "strconv.ErrRange" h
    have e : (laidL.filter fun x => x.1 == "strconv.ErrRange") = [("strconv.ErrRange", Rows.laid_strconv_ErrRange)] := by kernel_rfl
    rw [e] at h1
    exact laid_err (g := 7) (ti := 75) (by kernel_rfl) (by kernel_rfl) Tryz.underlying75 h1
  word := by
    have h1 := laid_one "onair/rights.errWord" h
    have e : (laidL.filter fun x => x.1 == "onair/rights.errWord") = [("onair/rights.errWord", Rows.laid_onair_rights_errWord)] := by kernel_rfl
    rw [e] at h1
    exact laid_err (g := 0) (ti := 75) (by kernel_rfl) (by kernel_rfl) Tryz.underlying75 h1
end Go.Proofs.YtpefhdjkpdjdpaaGreatDoor.R
namespace Go.Proofs.YtpefhdjkpdjdpaaGreatDoor.R
open Go Go.ChangeShapes Go.WideShapes Go.ChangeAt Go.Deep Go.RowKit Go.Proofs.YtpefhdjkpdjdpaaGreatDoorW.PrintWords Go.Proofs.YtpefhdjkpdjdpaaGreatDoorW.PrintLast Go.Proofs.YtpefhdjkpdjdpaaGreatDoorW.PrintMore
def firstCells : Array Value := match Rows.laid_unicode_utf8_first with
  | .agg l => (l.map fun
    | .lit (.int k z) => Value.int k z
    | _ => Value.nilIface).toArray
  | _ => #[]
/-- A world for the witness: the heap that the door's own run leaves, and the one table that is laid by its text alone. -/
noncomputable def laidWorld (os : Os) : World :=
  { World.doorLaid Tryz.prog 117 os with heap := (World.doorLaid Tryz.prog 117 os).heap.modify 3 fun
      | .cells _ t frozen => .cells firstCells t frozen
      | o => o }
end Go.Proofs.YtpefhdjkpdjdpaaGreatDoor.R
namespace Go.Proofs.YtpefhdjkpdjdpaaGreatDoor.R
open Go Go.RowKit Go.Proofs.YtpefhdjkpdjdpaaGreatDoorW.PrintWords Go.Proofs.YtpefhdjkpdjdpaaGreatDoorW.PrintLast Go.Proofs.YtpefhdjkpdjdpaaGreatDoorW.PrintMore
theorem same_refl (a : List S65) (ha : a.length ≤ 1000000) : ∀ (m i k : Nat), i + m = a.length → onairref06_SameSpans.l0 (m + 1 + k) a a (i : Int) = some true
  | 0, i, k, h => by
    rw [show 0 + 1 + k = k + 1 by omega]
    unfold onairref06_SameSpans.l0
    rw [if_neg (by omega)]
  | m + 1, i, k, h => by
    rw [show m + 1 + 1 + k = (m + 1 + k) + 1 by omega]
    unfold onairref06_SameSpans.l0
    have hw : wrap64 ((i : Int) + 1) = ((i + 1 : Nat) : Int) := by unfold wrap64; omega
    rw [if_pos (by omega), if_pos (by omega), if_pos (by omega), if_pos rfl, if_pos rfl, hw]
    exact same_refl a ha m (i + 1) k (by omega)
theorem same_f (a : List S65) (ha : a.length ≤ 1000000) (k : Nat) : onairref06_SameSpans.f (a.length + 1 + k) a a = some true := by
  unfold onairref06_SameSpans.f
  rw [if_pos rfl]
  exact same_refl a ha a.length 0 k (by omega)
def nextW (a3 : Int) (x10 : Bool) (y : S40) : Bool := if decide (y.f2 ≤ a3) && decide (a3 < y.f3) then y.f0 == 1 else x10
theorem decS_snoc (cnt : List S40) (y : S40) (x : Int) : decS (cnt ++ [y]) x = nextW x (decS cnt x) y := by
  unfold decS nextW
  rw [List.foldl_append]
  rfl
theorem any_has (l : List S65) (x : Int) : l.any (hasP x) = true ↔ inS l x := by
  rw [List.any_eq_true]
  unfold inS hasP
  constructor
  · rintro ⟨s, h1, h2⟩
    exact ⟨s, h1, by simpa using h2⟩
  · rintro ⟨s, h1, h2⟩
    exact ⟨s, h1, by simpa using h2⟩
theorem spans_has (cnt : List S40) (x : Int) : (spansOf cnt).any (hasP x) = decS cnt x := by
  have h := (any_has (spansOf cnt) x).trans ((spansOf_mem cnt).2 x)
  cases h1 : (spansOf cnt).any (hasP x) <;> cases h2 : decS cnt x <;> simp_all
theorem stepN_len (out : List S65) (v : S65) : (stepN out v).length ≤ out.length + 1 := by
  rcases List.eq_nil_or_concat out with rfl | ⟨ini, o, rfl⟩
  · simp [stepN]
  · rw [List.concat_eq_append, stepN_snoc]
    split <;> simp
theorem foldl_len : ∀ (ys out : List S65), (ys.foldl stepN out).length ≤ out.length + ys.length
  | [], out => by simp
  | v :: r, out => by
    have h1 := foldl_len r (stepN out v)
    have h2 := stepN_len out v
    rw [List.foldl_cons, List.length_cons]
    omega
theorem normT_len (l : List S65) : (normT l).length ≤ l.length := by
  have := foldl_len (l.mergeSort fun x y => decide (x.f0 ≤ y.f0)) []
  rw [List.length_mergeSort] at this
  simpa [normT, mergeN] using this
theorem spansOf_len (cnt : List S40) : (spansOf cnt).length ≤ cnt.length * 2 := by
  have h1 := normT_len (winK (bsOf cnt) (won (bsOf cnt) cnt) (bsOf cnt).length)
  have h2 := winK_len (bsOf cnt) (won (bsOf cnt) cnt) (bsOf cnt).length
  have h3 := Lib.compact_length_le ((boundsOf cnt).mergeSort fun x y => decide (x ≤ y))
  rw [List.length_mergeSort, bounds_len] at h3
  unfold spansOf
  have h4 : (bsOf cnt).length ≤ cnt.length * 2 := h3
  omega
theorem cut_f (l : List S40) (n : Int) (h0 : 0 ≤ n) (h1 : n ≤ 1000) : onairlaw06_cut.f l n = some (l.take n.toNat) := by
  unfold onairlaw06_cut.f mn
  have e : l.take (if n < (l.length : Int) then n else (l.length : Int)).toNat = l.take n.toNat := by
    split
    · rfl
    · rw [List.take_of_length_le (by omega), List.take_of_length_le (by omega)]
  simp only [Option.bind_some]
  rw [if_pos (by split <;> omega), if_pos (by split <;> omega), e, if_pos (by simp; omega)]
  rfl
theorem pick_f (a n : Int) (ha : fits a) (h0 : 0 < n) (h1 : n ≤ 1000) : ∃ r, onairlaw06_pick.f a n = some r ∧ 0 ≤ r ∧ r < n := by
  unfold onairlaw06_pick.f
  unfold fits at ha
  by_cases h : a < 0
  · have e1 : wrap64 (a + 1) = a + 1 := by unfold wrap64; omega
    have e2 : wrap64 (-(a + 1)) = -(a + 1) := by unfold wrap64; omega
    rw [if_pos h, if_neg (by omega), e1, e2, Int.tmod_eq_emod_of_nonneg (by omega)]
    exact ⟨_, rfl, Int.emod_nonneg _ (by omega), Int.emod_lt_of_pos _ h0⟩
  · rw [if_neg h, if_neg (by omega), Int.tmod_eq_emod_of_nonneg (by omega)]
    exact ⟨_, rfl, Int.emod_nonneg _ (by omega), Int.emod_lt_of_pos _ h0⟩
end Go.Proofs.YtpefhdjkpdjdpaaGreatDoor.R
namespace Go.Proofs.YtpefhdjkpdjdpaaGreatDoor.R
open Go.RowKit Go.Proofs.YtpefhdjkpdjdpaaGreatDoorW.PrintWords Go.Proofs.YtpefhdjkpdjdpaaGreatDoorW.PrintLast Go.Proofs.YtpefhdjkpdjdpaaGreatDoorW.PrintMore
attribute [local go_sem] max2_int min2_int max_two min_two max_three min_three max_four min_four   -- for this text's walks alone
set_option linter.unusedVariables false
set_option linter.unusedSimpArgs false
end Go.Proofs.YtpefhdjkpdjdpaaGreatDoor.R
namespace Go.Proofs.YtpefhdjkpdjdpaaGreatDoor.R
open Go.RowKit Go.Proofs.YtpefhdjkpdjdpaaGreatDoorW.PrintWords Go.Proofs.YtpefhdjkpdjdpaaGreatDoorW.PrintLast Go.Proofs.YtpefhdjkpdjdpaaGreatDoorW.PrintMore
attribute [local go_sem] max2_int min2_int max_two min_two max_three min_three max_four min_four   -- for this text's walks alone
set_option linter.unusedVariables false
set_option linter.unusedSimpArgs false
end Go.Proofs.YtpefhdjkpdjdpaaGreatDoor.R
namespace Go.Proofs.YtpefhdjkpdjdpaaGreatDoor.R
open Go.RowKit Go.Proofs.YtpefhdjkpdjdpaaGreatDoorW.PrintWords Go.Proofs.YtpefhdjkpdjdpaaGreatDoorW.PrintLast Go.Proofs.YtpefhdjkpdjdpaaGreatDoorW.PrintMore
attribute [local go_sem] max2_int min2_int max_two min_two max_three min_three max_four min_four   -- for this text's walks alone
set_option linter.unusedVariables false
set_option linter.unusedSimpArgs false
end Go.Proofs.YtpefhdjkpdjdpaaGreatDoor.R
namespace Go.Proofs.YtpefhdjkpdjdpaaGreatDoor.R
open Go.RowKit Go.Proofs.YtpefhdjkpdjdpaaGreatDoorW.PrintWords Go.Proofs.YtpefhdjkpdjdpaaGreatDoorW.PrintLast Go.Proofs.YtpefhdjkpdjdpaaGreatDoorW.PrintMore
attribute [local go_sem] max2_int min2_int max_two min_two max_three min_three max_four min_four   -- for this text's walks alone
set_option linter.unusedVariables false
set_option linter.unusedSimpArgs false
attribute [local go_sem high] eqA40
end Go.Proofs.YtpefhdjkpdjdpaaGreatDoor.R
namespace Go.Proofs.YtpefhdjkpdjdpaaGreatDoor.R
open Go.RowKit Go.Proofs.YtpefhdjkpdjdpaaGreatDoorW.PrintWords Go.Proofs.YtpefhdjkpdjdpaaGreatDoorW.PrintLast Go.Proofs.YtpefhdjkpdjdpaaGreatDoorW.PrintMore
attribute [local go_sem] max2_int min2_int max_two min_two max_three min_three max_four min_four   -- for this text's walks alone
set_option linter.unusedVariables false
set_option linter.unusedSimpArgs false
end Go.Proofs.YtpefhdjkpdjdpaaGreatDoor.R
