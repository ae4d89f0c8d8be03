/- Parts of the proof, merged out of this seat's texts by a program of this claim. -/
import Derived.Deep.Grids
import Derived.Test.YtpefhdjkpdjdpaaGreatDoorLm7
namespace Go.Proofs.YtpefhdjkpdjdpaaGreatDoor.R
open Go.RowKit Go.Proofs.YtpefhdjkpdjdpaaGreatDoorW.PrintWords Go.Proofs.YtpefhdjkpdjdpaaGreatDoorW.PrintLast Go.Proofs.YtpefhdjkpdjdpaaGreatDoorW.PrintMore
attribute [local go_sem] max2_int min2_int max_two min_two max_three min_three max_four min_four   -- for this text's walks alone
set_option linter.unusedVariables false
set_option linter.unusedSimpArgs false
mutual
def onairlaw06_RightsFirstError.l0 : Nat → List (S40) → List Bool → Int → Bool → ByteArray → Int → Int → Int → Int → Option (Bool)
  | 0, _, _, _, _, _, _, _, _, _ => none
  | k + 1, x0, x1, x2, x7, x8, x9, x10, x11, x12 => if x12 < (x0.length : Int) then (onairlaw06_RightsFirstError.j1 k x0 x1 x2 x7 x8 x9 x10 x11 x12 (decide (x12 < 30))) else (onairlaw06_RightsFirstError.j1 k x0 x1 x2 x7 x8 x9 x10 x11 x12 false)
def onairlaw06_RightsFirstError.j1 : Nat → List (S40) → List Bool → Int → Bool → ByteArray → Int → Int → Int → Int → Bool → Option (Bool)
  | 0, _, _, _, _, _, _, _, _, _, _ => none
  | k + 1, x0, x1, x2, x7, x8, x9, x10, x11, x12, x28 => if x28 = true then (if 0 ≤ x12 then (if x12 ≤ (wrap64 (x12 + 1)) then (if (wrap64 (x12 + 1)) ≤ (x0.length : Int) then ((rights_Print.f ((x0.take ((wrap64 (x12 + 1)) : Int).toNat).drop (x12 : Int).toNat)).bind fun bt195 => (if bt195.2 = 0 then (onairlaw06_RightsFirstError.j2 k x0 x1 x2 x7 x8 x9 x10 x11 x12 bt195.1 (bt195.1.toList == ([] : List UInt8))) else (onairlaw06_RightsFirstError.j2 k x0 x1 x2 x7 x8 x9 x10 x11 x12 bt195.1 true))) else (none)) else (none)) else (none)) else ((rights_Parse.f x8).bind fun bt186 => (if x10 = 0 then (if x7 = true then (if bt186.2.2 = 0 then (if (bt186.1.length : Int) = x11 then (some (bt186.2.1 == 0)) else (some false)) else (some false)) else (some false)) else (if x7 = true then (if bt186.2.2 = 60 then (if (bt186.1.length : Int) = 0 then (some (bt186.2.1 == x10)) else (some false)) else (some false)) else (some false))))
def onairlaw06_RightsFirstError.j2 : Nat → List (S40) → List Bool → Int → Bool → ByteArray → Int → Int → Int → Int → ByteArray → Bool → Option (Bool)
  | 0, _, _, _, _, _, _, _, _, _, _, _ => none
  | k + 1, x0, x1, x2, x7, x8, x9, x10, x11, x12, x13, x45 => if x45 = true then (onairlaw06_RightsFirstError.l0 k x0 x1 x2 x7 x8 x9 x10 x11 (wrap64 (x12 + 1))) else (if x12 < (x1.length : Int) then (if 0 ≤ x12 then (onairlaw06_RightsFirstError.j3 k x0 x1 x2 x7 x8 x9 x10 x11 x12 x13 (rdOf false x1 x12)) else (none)) else (onairlaw06_RightsFirstError.j3 k x0 x1 x2 x7 x8 x9 x10 x11 x12 x13 false))
def onairlaw06_RightsFirstError.j3 : Nat → List (S40) → List Bool → Int → Bool → ByteArray → Int → Int → Int → Int → ByteArray → Bool → Option (Bool)
  | 0, _, _, _, _, _, _, _, _, _, _, _ => none
  | k + 1, x0, x1, x2, x7, x8, x9, x10, x11, x12, x13, x55 => if x55 = true then (if x8.size + 13 ≤ 9223372036854775807 then (if x11 = x2 then (if 0 ≤ (wrap64 ((x13.size : Int) - 1)) then (if (wrap64 ((x13.size : Int) - 1)) ≤ (x13.size : Int) then (if (x13.extract 0 ((wrap64 ((x13.size : Int) - 1)) : Int).toNat).size + 2 ≤ 9223372036854775807 then (if (x8 ++ (⟨#[35, 32, 97, 32, 99, 111, 109, 109, 101, 110, 116, 10, 10]⟩ : ByteArray)).size + ((x13.extract 0 ((wrap64 ((x13.size : Int) - 1)) : Int).toNat) ++ (⟨#[32, 10]⟩ : ByteArray)).size ≤ 9223372036854775807 then (onairlaw06_RightsFirstError.l0 k x0 x1 x2 x7 ((x8 ++ (⟨#[35, 32, 97, 32, 99, 111, 109, 109, 101, 110, 116, 10, 10]⟩ : ByteArray)) ++ ((x13.extract 0 ((wrap64 ((x13.size : Int) - 1)) : Int).toNat) ++ (⟨#[32, 10]⟩ : ByteArray))) (wrap64 ((wrap64 (x9 + 2)) + 1)) (wrap64 ((wrap64 (x9 + 2)) + 1)) (wrap64 (x11 + 1)) (wrap64 (x12 + 1))) else (none)) else (none)) else (none)) else (none)) else (if (x8 ++ (⟨#[35, 32, 97, 32, 99, 111, 109, 109, 101, 110, 116, 10, 10]⟩ : ByteArray)).size + x13.size ≤ 9223372036854775807 then (onairlaw06_RightsFirstError.l0 k x0 x1 x2 x7 ((x8 ++ (⟨#[35, 32, 97, 32, 99, 111, 109, 109, 101, 110, 116, 10, 10]⟩ : ByteArray)) ++ x13) (wrap64 ((wrap64 (x9 + 2)) + 1)) x10 (wrap64 (x11 + 1)) (wrap64 (x12 + 1))) else (none))) else (none)) else (if x11 = x2 then (if 0 ≤ (wrap64 ((x13.size : Int) - 1)) then (if (wrap64 ((x13.size : Int) - 1)) ≤ (x13.size : Int) then (if (x13.extract 0 ((wrap64 ((x13.size : Int) - 1)) : Int).toNat).size + 2 ≤ 9223372036854775807 then (if x8.size + ((x13.extract 0 ((wrap64 ((x13.size : Int) - 1)) : Int).toNat) ++ (⟨#[32, 10]⟩ : ByteArray)).size ≤ 9223372036854775807 then (onairlaw06_RightsFirstError.l0 k x0 x1 x2 x7 (x8 ++ ((x13.extract 0 ((wrap64 ((x13.size : Int) - 1)) : Int).toNat) ++ (⟨#[32, 10]⟩ : ByteArray))) (wrap64 (x9 + 1)) (wrap64 (x9 + 1)) (wrap64 (x11 + 1)) (wrap64 (x12 + 1))) else (none)) else (none)) else (none)) else (none)) else (if x8.size + x13.size ≤ 9223372036854775807 then (onairlaw06_RightsFirstError.l0 k x0 x1 x2 x7 (x8 ++ x13) (wrap64 (x9 + 1)) x10 (wrap64 (x11 + 1)) (wrap64 (x12 + 1))) else (none)))
end
def onairlaw06_RightsFirstError.f (k : Nat) (l0 : List (S40)) (l1 : List Bool) (a2 : Int) : Option (Bool) := (onairlaw06_sane.f).bind fun t184 => ((onairlaw06_pick.f a2 30).bind fun t185 => (onairlaw06_RightsFirstError.l0 k l0 l1 t185 t184 (⟨#[]⟩ : ByteArray) 0 0 0 0))
theorem onairlaw06_RightsFirstError.mono_l : ∀ k, (∀ y0 y1 y2 y3 y4 y5 y6 y7 y8, LeO (onairlaw06_RightsFirstError.l0 k y0 y1 y2 y3 y4 y5 y6 y7 y8) (onairlaw06_RightsFirstError.l0 (k + 1) y0 y1 y2 y3 y4 y5 y6 y7 y8)) ∧ (∀ y0 y1 y2 y3 y4 y5 y6 y7 y8 y9, LeO (onairlaw06_RightsFirstError.j1 k y0 y1 y2 y3 y4 y5 y6 y7 y8 y9) (onairlaw06_RightsFirstError.j1 (k + 1) y0 y1 y2 y3 y4 y5 y6 y7 y8 y9)) ∧ (∀ y0 y1 y2 y3 y4 y5 y6 y7 y8 y9 y10, LeO (onairlaw06_RightsFirstError.j2 k y0 y1 y2 y3 y4 y5 y6 y7 y8 y9 y10) (onairlaw06_RightsFirstError.j2 (k + 1) y0 y1 y2 y3 y4 y5 y6 y7 y8 y9 y10)) ∧ (∀ y0 y1 y2 y3 y4 y5 y6 y7 y8 y9 y10, LeO (onairlaw06_RightsFirstError.j3 k y0 y1 y2 y3 y4 y5 y6 y7 y8 y9 y10) (onairlaw06_RightsFirstError.j3 (k + 1) y0 y1 y2 y3 y4 y5 y6 y7 y8 y9 y10))
  | 0 => ⟨fun _ _ _ _ _ _ _ _ _ r h => by simp [onairlaw06_RightsFirstError.l0] at h, fun _ _ _ _ _ _ _ _ _ _ r h => by simp [onairlaw06_RightsFirstError.j1] at h, fun _ _ _ _ _ _ _ _ _ _ _ r h => by simp [onairlaw06_RightsFirstError.j2] at h, fun _ _ _ _ _ _ _ _ _ _ _ r h => by simp [onairlaw06_RightsFirstError.j3] at h⟩
  | k + 1 => by
    obtain ⟨ih0, ih1, ih2, ih3⟩ := onairlaw06_RightsFirstError.mono_l k
    refine ⟨?_, ?_, ?_, ?_⟩
    · intro y0 y1 y2 y3 y4 y5 y6 y7 y8
      unfold onairlaw06_RightsFirstError.l0
      repeat' first
      | (with_reducible exact ih0 _ _ _ _ _ _ _ _ _)
      | (with_reducible exact ih1 _ _ _ _ _ _ _ _ _ _)
      | (with_reducible exact ih2 _ _ _ _ _ _ _ _ _ _ _)
      | (with_reducible exact ih3 _ _ _ _ _ _ _ _ _ _ _)
      | (with_reducible exact LeO.refl _)
      | (with_reducible exact LeO.none _)
      | (with_reducible refine LeO.ite ?_ ?_)
      | (with_reducible refine LeO.bind ?_ (fun _ => ?_))
      | exact ih0 _ _ _ _ _ _ _ _ _
      | exact ih1 _ _ _ _ _ _ _ _ _ _
      | exact ih2 _ _ _ _ _ _ _ _ _ _ _
      | exact ih3 _ _ _ _ _ _ _ _ _ _ _
      | exact LeO.none _
      | refine LeO.ite ?_ ?_
      | refine LeO.bind ?_ (fun _ => ?_)
    · intro y0 y1 y2 y3 y4 y5 y6 y7 y8 y9
      unfold onairlaw06_RightsFirstError.j1
      repeat' first
      | (with_reducible exact ih0 _ _ _ _ _ _ _ _ _)
      | (with_reducible exact ih1 _ _ _ _ _ _ _ _ _ _)
      | (with_reducible exact ih2 _ _ _ _ _ _ _ _ _ _ _)
      | (with_reducible exact ih3 _ _ _ _ _ _ _ _ _ _ _)
      | (with_reducible exact LeO.refl _)
      | (with_reducible exact LeO.none _)
      | (with_reducible refine LeO.ite ?_ ?_)
      | (with_reducible refine LeO.bind ?_ (fun _ => ?_))
      | exact ih0 _ _ _ _ _ _ _ _ _
      | exact ih1 _ _ _ _ _ _ _ _ _ _
      | exact ih2 _ _ _ _ _ _ _ _ _ _ _
      | exact ih3 _ _ _ _ _ _ _ _ _ _ _
      | exact LeO.none _
      | refine LeO.ite ?_ ?_
      | refine LeO.bind ?_ (fun _ => ?_)
    · intro y0 y1 y2 y3 y4 y5 y6 y7 y8 y9 y10
      unfold onairlaw06_RightsFirstError.j2
      repeat' first
      | (with_reducible exact ih0 _ _ _ _ _ _ _ _ _)
      | (with_reducible exact ih1 _ _ _ _ _ _ _ _ _ _)
      | (with_reducible exact ih2 _ _ _ _ _ _ _ _ _ _ _)
      | (with_reducible exact ih3 _ _ _ _ _ _ _ _ _ _ _)
      | (with_reducible exact LeO.refl _)
      | (with_reducible exact LeO.none _)
      | (with_reducible refine LeO.ite ?_ ?_)
      | (with_reducible refine LeO.bind ?_ (fun _ => ?_))
      | exact ih0 _ _ _ _ _ _ _ _ _
      | exact ih1 _ _ _ _ _ _ _ _ _ _
      | exact ih2 _ _ _ _ _ _ _ _ _ _ _
      | exact ih3 _ _ _ _ _ _ _ _ _ _ _
      | exact LeO.none _
      | refine LeO.ite ?_ ?_
      | refine LeO.bind ?_ (fun _ => ?_)
    · intro y0 y1 y2 y3 y4 y5 y6 y7 y8 y9 y10
      unfold onairlaw06_RightsFirstError.j3
      repeat' first
      | (with_reducible exact ih0 _ _ _ _ _ _ _ _ _)
      | (with_reducible exact ih1 _ _ _ _ _ _ _ _ _ _)
      | (with_reducible exact ih2 _ _ _ _ _ _ _ _ _ _ _)
      | (with_reducible exact ih3 _ _ _ _ _ _ _ _ _ _ _)
      | (with_reducible exact LeO.refl _)
      | (with_reducible exact LeO.none _)
      | (with_reducible refine LeO.ite ?_ ?_)
      | (with_reducible refine LeO.bind ?_ (fun _ => ?_))
      | exact ih0 _ _ _ _ _ _ _ _ _
      | exact ih1 _ _ _ _ _ _ _ _ _ _
      | exact ih2 _ _ _ _ _ _ _ _ _ _ _
      | exact ih3 _ _ _ _ _ _ _ _ _ _ _
      | exact LeO.none _
      | refine LeO.ite ?_ ?_
      | refine LeO.bind ?_ (fun _ => ?_)
theorem onairlaw06_RightsFirstError.mono : ∀ a0 a1 a2 k, LeO (onairlaw06_RightsFirstError.f k a0 a1 a2) (onairlaw06_RightsFirstError.f (k + 1) a0 a1 a2) := by
  intro a0 a1 a2 k
  obtain ⟨ih0, ih1, ih2, ih3⟩ := onairlaw06_RightsFirstError.mono_l k
  unfold onairlaw06_RightsFirstError.f
  repeat' first
      | (with_reducible exact ih0 _ _ _ _ _ _ _ _ _)
      | (with_reducible exact ih1 _ _ _ _ _ _ _ _ _ _)
      | (with_reducible exact ih2 _ _ _ _ _ _ _ _ _ _ _)
      | (with_reducible exact ih3 _ _ _ _ _ _ _ _ _ _ _)
      | (with_reducible exact LeO.refl _)
      | (with_reducible exact LeO.none _)
      | (with_reducible refine LeO.ite ?_ ?_)
      | (with_reducible refine LeO.bind ?_ (fun _ => ?_))
      | exact ih0 _ _ _ _ _ _ _ _ _
      | exact ih1 _ _ _ _ _ _ _ _ _ _
      | exact ih2 _ _ _ _ _ _ _ _ _ _ _
      | exact ih3 _ _ _ _ _ _ _ _ _ _ _
      | exact LeO.none _
      | refine LeO.ite ?_ ?_
      | refine LeO.bind ?_ (fun _ => ?_)
set_option maxHeartbeats 8000000 in
set_option maxRecDepth 100000 in
theorem onairlaw06_RightsFirstError.calls (k : Nat) (A0 : Option Addr) (c0 : Nat) (l0 : List (S40)) (A1 : Option Addr) (c1 : Nat) (l1 : List Bool) (a2 : Int) (r : Bool) (w : World) (hr0 : Kd.C k40 w A0 l0.length l0) (hc0 : l0.length ≤ c0) (hr1 : Kd.C Kd.bool w A1 l1.length l1) (hc1 : l1.length ≤ c1) (h : onairlaw06_RightsFirstError.f k l0 l1 a2 = some r) (hT : TabW w) :
    Calls Tryz.prog 3 #[.slice A0 l0.length c0, .slice A1 l1.length c1, .int .i64 a2] w fun e w' => e = .returned (.bool r) ∧ Below w.heap.size w w' := by
  have HT := Aside0.mk hT
  clear hT
  have HR0 := Aside0.mk hr0
  have HC0 := Aside0.mk hc0
  clear hr0 hc0
  have HR1 := Aside0.mk hr1
  have HC1 := Aside0.mk hc1
  clear hr1 hc1
  have HB := Aside0.mk (Below.refl w.heap.size w)
  have H : ((onairlaw06_sane.f).bind fun t184 => ((onairlaw06_pick.f a2 30).bind fun t185 => (onairlaw06_RightsFirstError.l0 k l0 l1 t185 t184 (⟨#[]⟩ : ByteArray) 0 0 0 0))) = some r := h
  clear h
  replace H := Option.bind_eq_some_iff.mp H
  obtain ⟨t184, A40, H⟩ := H
  replace H : ((onairlaw06_pick.f a2 30).bind fun t185 => (onairlaw06_RightsFirstError.l0 k l0 l1 t185 t184 (⟨#[]⟩ : ByteArray) 0 0 0 0)) = some r := H
  have A4 := Aside0.mk A40
  clear A40
  replace H := Option.bind_eq_some_iff.mp H
  obtain ⟨t185, A50, H⟩ := H
  replace H : (onairlaw06_RightsFirstError.l0 k l0 l1 t185 t184 (⟨#[]⟩ : ByteArray) 0 0 0 0) = some r := H
  have A5 := Aside0.mk A50
  clear A50
  have H' := Aside0.mk H
  clear H
  go_enter Tryz.func3, Tryz.ntmps3
  go_wp2_with (first | ((with_reducible refine gate_callee (f := 8) rfl ?_); refine goesL_ (some 18) rfl rfl Tryz.func8 (by kernel_rfl) rfl #[] rfl (by (try simp only [List.map_toArray, List.map_cons, List.map_nil]); first | done | rfl | (simp only [List.length_drop, List.length_take]; rfl)) ?_; (with_reducible refine (onairlaw06_sane.calls  t184 _ A4.out (by first | exact HT.out | exact TabW.below HT.out (by repeat (first | (with_reducible first | exact HB.out | apply below_alloc | apply pw_below_drewN | apply below_drew1) | exact HB.out)))).mono ?_); rintro e w6 ⟨rfl, hb⟩; refine ⟨_, rfl, ?_⟩; have n0_ := Aside0.mk (below_step (by repeat (first | (with_reducible first | exact HB.out | apply below_alloc | apply pw_below_drewN | apply below_drew1) | exact HB.out)) hb); clear HB; have HB := n0_; clear n0_; (try clear hb); (try clear hb2); (try clear hk); (try clear hi)) | ((with_reducible refine gate_callee (f := 9) rfl ?_); refine goesL_ (some 20) rfl rfl Tryz.func9 (by kernel_rfl) rfl #[.int .i64 a2, .int .i64 30] rfl (by (try simp only [List.map_toArray, List.map_cons, List.map_nil]); first | done | rfl | (simp only [List.length_drop, List.length_take]; rfl)) ?_; (with_reducible refine (onairlaw06_pick.calls a2 30 t185 _ A5.out).mono ?_); rintro e w' ⟨rfl, ⟨nd, rfl⟩⟩; refine ⟨_, rfl, ?_⟩))
  go_loopg [8, 9, 10, 11, 12] k (fun kq v8 v9 v10 v11 v12 w' => ∃ (x8_1 : ByteArray) (x9_1 : Int) (x10_1 : Int) (x11_1 : Int) (x12_1 : Int), v8 = .string x8_1 ∧ v9 = .int .i64 x9_1 ∧ v10 = .int .i64 x10_1 ∧ v11 = .int .i64 x11_1 ∧ v12 = .int .i64 x12_1 ∧ Aside0 (onairlaw06_RightsFirstError.l0 kq l0 l1 t185 t184 x8_1 x9_1 x10_1 x11_1 x12_1 = some r) ∧ Aside0 (kq ≤ k) ∧ Aside0 (Below w.heap.size w w'))
  case atStart => exact ⟨((⟨#[]⟩ : ByteArray)), (0), (0), (0), (0), (by first | rfl | (simp; done) | (simp [*]; done)), (by first | rfl | (simp; done) | (simp [*]; done)), (by first | rfl | (simp; done) | (simp [*]; done)), (by first | rfl | (simp; done) | (simp [*]; done)), (by first | rfl | (simp; done) | (simp [*]; done)), H', ⟨Nat.le_refl _⟩, ⟨by repeat (first | (with_reducible first | exact HB.out | apply below_alloc | apply pw_below_drewN | apply below_drew1) | exact HB.out)⟩⟩
  case round =>
    clear H'
    try clear c1
    try clear p2
    try clear c3
    obtain ⟨x8_1, x9_1, x10_1, x11_1, x12_1, rfl, rfl, rfl, rfl, rfl, HA, HK1, HB⟩ := hrel
    cases gk with
    | zero => exact absurd HA.out (by simp [onairlaw06_RightsFirstError.l0])
    | succ k1 =>
      have H := HA.out
      clear HA
      simp only [onairlaw06_RightsFirstError.l0] at H
      have HC7 := Aside0.mk H
      clear H
      go_upto_region 8 with (fail)
      go_cut [28] (fun v28 wc => ∃ (kq : Nat) (x28_6 : Bool), v28 = .bool x28_6 ∧ Aside0 (onairlaw06_RightsFirstError.j1 kq l0 l1 t185 t184 x8_1 x9_1 x10_1 x11_1 x12_1 x28_6 = some r) ∧ Aside0 (kq ≤ k1) ∧ Aside0 (Below w.heap.size w wc))
      case first =>
        have H := HC7.out
        clear HC7
        by_cases c8 : x12_1 < (l0.length : Int)
        · rw [if_pos c8] at H
          have c8b0 : decide (x12_1 < (l0.length : Int)) = true := decide_eq_true c8
          clear c8
          (first | rw [c8b0] | (simp only [i64_w, i32_w]; rw [c8b0]) | skip)
          have H' := Aside0.mk H
          clear H
          go_wp2
          go_meet
          case rel => exact ⟨_, (decide (x12_1 < 30)), (by first | rfl | (simp; done) | (simp [*]; done)), H', ⟨by have := HK1.out; first | omega | exact Nat.le_refl _⟩, ⟨by repeat (first | (with_reducible first | exact HB.out | apply below_alloc | apply pw_below_drewN | apply below_drew1) | exact HB.out)⟩⟩
        · rw [if_neg c8] at H
          have c8b0 : decide (x12_1 < (l0.length : Int)) = false := decide_eq_false c8
          clear c8
          (first | rw [c8b0] | (simp only [i64_w, i32_w]; rw [c8b0]) | skip)
          have H' := Aside0.mk H
          clear H
          go_wp2
          go_meet
          case rel => exact ⟨_, (false), (by first | rfl | (simp; done) | (simp [*]; done)), H', ⟨by have := HK1.out; first | omega | exact Nat.le_refl _⟩, ⟨by repeat (first | (with_reducible first | exact HB.out | apply below_alloc | apply pw_below_drewN | apply below_drew1) | exact HB.out)⟩⟩
      case rest =>
        clear HC7
        try clear c1
        try clear p2
        try clear c3
        try clear c8
        try clear c8b0
        try clear p2
        obtain ⟨kq, x28_6, rfl, HA, HJ6, HB⟩ := hcut
        cases kq with
        | zero => exact absurd HA.out (by simp [onairlaw06_RightsFirstError.j1])
        | succ kj6 =>
          have H := HA.out
          clear HA
          simp only [onairlaw06_RightsFirstError.j1] at H
          by_cases c9 : x28_6 = true
          · subst c9
            have H1 : (if 0 ≤ x12_1 then (if x12_1 ≤ (wrap64 (x12_1 + 1)) then (if (wrap64 (x12_1 + 1)) ≤ (l0.length : Int) then ((rights_Print.f ((l0.take ((wrap64 (x12_1 + 1)) : Int).toNat).drop (x12_1 : Int).toNat)).bind fun bt195 => (if bt195.2 = 0 then (onairlaw06_RightsFirstError.j2 kj6 l0 l1 t185 t184 x8_1 x9_1 x10_1 x11_1 x12_1 bt195.1 (bt195.1.toList == ([] : List UInt8))) else (onairlaw06_RightsFirstError.j2 kj6 l0 l1 t185 t184 x8_1 x9_1 x10_1 x11_1 x12_1 bt195.1 true))) else (none)) else (none)) else (none)) = some r := by rw [if_pos rfl] at H; exact H
            clear H
            have H := H1
            clear H1
            by_cases c10 : 0 ≤ x12_1
            · rw [if_pos c10] at H
              have c10b0 := eq_true c10
              have c10b1 : decide (0 ≤ x12_1) = true := decide_eq_true c10
              clear c10
              by_cases c11 : x12_1 ≤ (wrap64 (x12_1 + 1))
              · rw [if_pos c11] at H
                have c11b0 := eq_true c11
                have c11b1 : decide (x12_1 ≤ (wrap64 (x12_1 + 1))) = true := decide_eq_true c11
                by_cases c12 : (wrap64 (x12_1 + 1)) ≤ (l0.length : Int)
                · rw [if_pos c12] at H
                  have c12b0 := eq_true c12
                  have c12b1 : decide ((wrap64 (x12_1 + 1)) ≤ (l0.length : Int)) = true := decide_eq_true c12
                  obtain ⟨y191, hy191⟩ : ∃ y_ : List (S40), y_ = ((l0.take ((wrap64 (x12_1 + 1)) : Int).toNat).drop (x12_1 : Int).toNat) := ⟨_, rfl⟩
                  replace H : ((rights_Print.f y191).bind fun bt195 => (if bt195.2 = 0 then (onairlaw06_RightsFirstError.j2 kj6 l0 l1 t185 t184 x8_1 x9_1 x10_1 x11_1 x12_1 bt195.1 (bt195.1.toList == ([] : List UInt8))) else (onairlaw06_RightsFirstError.j2 kj6 l0 l1 t185 t184 x8_1 x9_1 x10_1 x11_1 x12_1 bt195.1 true))) = some r := by first | (rw [hy191]; with_reducible exact H) | (have H2_ := (Option.bind_some _ _).symm.trans H; rw [hy191]; with_reducible exact H2_) | (have H2_ := (Option.bind_some _ _).symm.trans H; with_reducible exact H2_) | with_reducible exact H | (rw [hy191]; exact H) | exact H
                  have Ny191 := Aside0.mk hy191
                  clear hy191
                  replace H := Option.bind_eq_some_iff.mp H
                  obtain ⟨⟨t195, t196⟩, A130, H⟩ := H
                  replace H : (if t196 = 0 then (onairlaw06_RightsFirstError.j2 kj6 l0 l1 t185 t184 x8_1 x9_1 x10_1 x11_1 x12_1 t195 (t195.toList == ([] : List UInt8))) else (onairlaw06_RightsFirstError.j2 kj6 l0 l1 t185 t184 x8_1 x9_1 x10_1 x11_1 x12_1 t195 true)) = some r := H
                  have A13 := Aside0.mk A130
                  clear A130
                  have HC14 := Aside0.mk H
                  clear H
                  have q15 : ((wrap64 (x12_1 + 1)) : Int) ≤ ((l0.length : Int) : Int) := of_decide_eq_true (by first | (with_reducible assumption) | assumption)
                  obtain ⟨i015, hi015, _, hsz15, _⟩ := info_parts info40
                  have hroom15 : l0.length ≤ c0 := HC0.out
                  have hC15 : Kd.C k40 _ A0 l0.length l0 := HR0.out
                  have ql15 : (x12_1 : Int) ≤ ((wrap64 (x12_1 + 1)) : Int) := of_decide_eq_true (by first | (with_reducible assumption) | assumption)
                  have q015 : (0 : Int) ≤ (x12_1 : Int) := of_decide_eq_true (by first | (with_reducible assumption) | assumption)
                  have hcut15 := cut_mid (P := Tryz.prog) 22 40 .i64 .i64 Tryz.underlying22 hi015 8 hsz15 A0 l0.length c0 x12_1 (wrap64 (x12_1 + 1)) q015 ql15 q15 hroom15
                  have hr15 := Kd.C_mid (lo := (x12_1 : Int).toNat) (hi := ((wrap64 (x12_1 + 1)) : Int).toNat) (c := c0) hC15 (by omega) (by omega) hroom15
                  obtain ⟨A15, hA15⟩ : ∃ A1, A1 = (if c0 = (x12_1 : Int).toNat then A0 else (A0 : Option Addr).map (·.add ((x12_1 : Int).toNat * 8))) := ⟨_, rfl⟩
                  obtain ⟨c15, hc15⟩ : ∃ c1, c1 = c0 - (x12_1 : Int).toNat := ⟨_, rfl⟩
                  have hy15 : y191.length = ((wrap64 (x12_1 + 1)) : Int).toNat - (x12_1 : Int).toNat := (by rw [Ny191.out, List.length_drop, List.length_take] <;> omega)
                  rw [show ((l0).take ((wrap64 (x12_1 + 1)) : Int).toNat).drop (x12_1 : Int).toNat = y191 from Ny191.out.symm] at hr15
                  replace hr15 : Kd.C k40 _ A15 y191.length y191 := (by rw [hA15]; exact hr15)
                  rw [← hy15, ← hA15, ← hc15] at hcut15
                  have HR194 := Aside0.mk hr15
                  have HC194 := Aside0.mk (show y191.length ≤ c15 from by rw [hy15, hc15]; exact Nat.sub_le_sub_right (Nat.le_trans (by omega) hroom15) _)
                  clear hr15 hC15 hroom15 hi015 hsz15 hc15
                  have KY15 := Aside0.mk hy15
                  have KA15 := Aside0.mk hA15
                  clear hy15 hA15
                  replace q15 := eq_true q15
                  go_upto_region 11 with (first | ((with_reducible refine gate_callee (f := 10) rfl ?_); refine goesL_ (some 37) rfl rfl Tryz.func10 (by kernel_rfl) rfl #[.slice A15 y191.length c15] rfl (by (try simp only [List.map_toArray, List.map_cons, List.map_nil]); first | done | rfl | (simp only [List.length_drop, List.length_take]; rfl)) ?_; (with_reducible refine (rights_Print.calls _ _ y191 t195 t196 _ ?side1 ?side2 A13.out (by first | exact HT.out | exact TabW.below HT.out (by repeat (first | (with_reducible first | exact HB.out | apply below_alloc | apply pw_below_drewN | apply below_drew1) | exact HB.out)))).mono ?_); (case side1 => repeat (first | exact (Kd.C_below HR194.out HB.out) | (with_reducible refine Kd.C_alloc ?_ _) | (with_reducible refine Kd.C_drewN ?_ _) | (with_reducible refine Kd.C_drew ?_))); (case side2 => exact HC194.out); rintro e w16 ⟨rfl, hb⟩; refine ⟨_, rfl, ?_⟩; have n0_ := Aside0.mk (below_step (by repeat (first | (with_reducible first | exact HB.out | apply below_alloc | apply pw_below_drewN | apply below_drew1) | exact HB.out)) hb); clear HB; have HB := n0_; clear n0_; (try clear hb); (try clear hb2); (try clear hk); (try clear hi)))
                  (try simp only [Act.put, List.setIfInBounds_toArray, List.set_cons_zero, List.set_cons_succ])
                  go_cut [45] (fun v45 wc => ∃ (kq : Nat) (x45_13 : Bool), v45 = .bool x45_13 ∧ Aside0 (onairlaw06_RightsFirstError.j2 kq l0 l1 t185 t184 x8_1 x9_1 x10_1 x11_1 x12_1 t195 x45_13 = some r) ∧ Aside0 (kq ≤ kj6) ∧ Aside0 (Below w.heap.size w wc))
                  case first =>
                    have H := HC14.out
                    clear HC14
                    by_cases c17 : t196 = 0
                    · rw [if_pos c17] at H
                      have c17b0 : (t196 == 0) = true := beq_iff_eq.mpr c17
                      have c17b1 : (t196 != 0) = false := bne_eq_false_iff_eq.mpr c17
                      clear c17
                      (first | rw [c17b0] | (simp only [i64_w, i32_w]; rw [c17b0]) | skip)
                      have H' := Aside0.mk H
                      clear H
                      go_wp2
                      go_meet
                      case rel => exact ⟨_, ((t195.toList == ([] : List UInt8))), (by first | rfl | (simp; done) | (simp [*]; done)), H', ⟨by have := HK1.out; have := HJ6.out; first | omega | exact Nat.le_refl _⟩, ⟨by repeat (first | (with_reducible first | exact HB.out | apply below_alloc | apply pw_below_drewN | apply below_drew1) | exact HB.out)⟩⟩
                    · rw [if_neg c17] at H
                      have c17b0 : (t196 == 0) = false := beq_eq_false_iff_ne.mpr c17
                      have c17b1 : (t196 != 0) = true := bne_iff_ne.mpr c17
                      (first | rw [c17b0] | (simp only [i64_w, i32_w]; rw [c17b0]) | skip)
                      have H' := Aside0.mk H
                      clear H
                      go_wp2
                      go_meet
                      case rel => exact ⟨_, (true), (by first | rfl | (simp; done) | (simp [*]; done)), H', ⟨by have := HK1.out; have := HJ6.out; first | omega | exact Nat.le_refl _⟩, ⟨by repeat (first | (with_reducible first | exact HB.out | apply below_alloc | apply pw_below_drewN | apply below_drew1) | exact HB.out)⟩⟩
                  case rest =>
                    clear HC14
                    try clear c1
                    try clear q1
                    try clear p2
                    try clear c3
                    try clear p6
                    try clear c8
                    try clear c8b0
                    try clear c9
                    try clear c10
                    try clear c10b0
                    try clear c10b1
                    try clear c11
                    try clear c11b0
                    try clear c11b1
                    try clear c12
                    try clear c12b0
                    try clear c12b1
                    try clear c15
                    try clear q15
                    try clear c17
                    try clear c17b0
                    try clear c17b1
                    try clear p2
                    try clear q015
                    try clear q15
                    obtain ⟨kq, x45_13, rfl, HA, HJ13, HB⟩ := hcut
                    cases kq with
                    | zero => exact absurd HA.out (by simp [onairlaw06_RightsFirstError.j2])
                    | succ kj13 =>
                      have H := HA.out
                      clear HA
                      simp only [onairlaw06_RightsFirstError.j2] at H
                      by_cases c18 : x45_13 = true
                      · subst c18
                        have H1 : (onairlaw06_RightsFirstError.l0 kj13 l0 l1 t185 t184 x8_1 x9_1 x10_1 x11_1 (wrap64 (x12_1 + 1))) = some r := by rw [if_pos rfl] at H; exact H
                        clear H
                        have H := H1
                        clear H1
                        have H' := Aside0.mk H
                        clear H
                        go_wp2
                        go_roundg kj13
                        case measure => have := HK1.out; have := HJ6.out; have := HJ13.out; omega
                        case rel => exact ⟨(x8_1), (x9_1), (x10_1), (x11_1), (wrap64 (x12_1 + 1)), (by first | rfl | (simp; done) | (simp [*]; done)), (by first | rfl | (simp; done) | (simp [*]; done)), (by first | rfl | (simp; done) | (simp [*]; done)), (by first | rfl | (simp; done) | (simp [*]; done)), (by first | rfl | (simp; done) | (simp [*]; done)), H', ⟨by have := HK1.out; have := HJ6.out; have := HJ13.out; omega⟩, ⟨by repeat (first | (with_reducible first | exact HB.out | apply below_alloc | apply pw_below_drewN | apply below_drew1) | exact HB.out)⟩⟩
                      · replace c18 := Bool.eq_false_iff.mpr c18
                        subst c18
                        have H1 : (if x12_1 < (l1.length : Int) then (if 0 ≤ x12_1 then (onairlaw06_RightsFirstError.j3 kj13 l0 l1 t185 t184 x8_1 x9_1 x10_1 x11_1 x12_1 t195 (rdOf false l1 x12_1)) else (none)) else (onairlaw06_RightsFirstError.j3 kj13 l0 l1 t185 t184 x8_1 x9_1 x10_1 x11_1 x12_1 t195 false)) = some r := by rw [if_neg (show ¬ (false = true) by decide)] at H; exact H
                        clear H
                        have H := H1
                        clear H1
                        have HC19 := Aside0.mk H
                        clear H
                        go_upto_region 12 with (fail)
                        go_cut [55] (fun v55 wc => ∃ (kq : Nat) (x55_18 : Bool), v55 = .bool x55_18 ∧ Aside0 (onairlaw06_RightsFirstError.j3 kq l0 l1 t185 t184 x8_1 x9_1 x10_1 x11_1 x12_1 t195 x55_18 = some r) ∧ Aside0 (kq ≤ kj13) ∧ Aside0 (Below w.heap.size w wc))
                        case first =>
                          have H := HC19.out
                          clear HC19
                          by_cases c20 : x12_1 < (l1.length : Int)
                          · rw [if_pos c20] at H
                            have c20b0 : decide (x12_1 < (l1.length : Int)) = true := decide_eq_true c20
                            clear c20
                            (first | rw [c20b0] | (simp only [i64_w, i32_w]; rw [c20b0]) | skip)
                            by_cases c21 : 0 ≤ x12_1
                            · rw [if_pos c21] at H
                              have c21b0 : decide (0 ≤ x12_1) = true := decide_eq_true c21
                              clear c21
                              have H' := Aside0.mk H
                              clear H
                              have p197 : 0 ≤ (x12_1 : Int) := of_decide_eq_true (by first | (with_reducible assumption) | assumption)
                              have q197 : x12_1 < (l1.length : Int) := of_decide_eq_true (by first | (with_reducible assumption) | assumption)
                              obtain ⟨ad197, e197, hx197_0⟩ := Kd.at_bool HR1.out x12_1 p197 q197
                              cases e197
                              replace hx197_0 := (HB.out.cell (World.block_lt_of_cell? w _ hx197_0)).trans hx197_0
                              replace p197 := eq_true p197
                              replace q197 := eq_true q197
                              go_wp2
                              go_meet
                              case rel => exact ⟨_, (rdOf false l1 x12_1), (by first | rfl | (simp; done) | (simp [*]; done)), H', ⟨by have := HK1.out; have := HJ6.out; have := HJ13.out; first | omega | exact Nat.le_refl _⟩, ⟨by repeat (first | (with_reducible first | exact HB.out | apply below_alloc | apply pw_below_drewN | apply below_drew1) | exact HB.out)⟩⟩
                            · rw [if_neg c21] at H
                              exact absurd H (by simp)
                          · rw [if_neg c20] at H
                            have c20b0 : decide (x12_1 < (l1.length : Int)) = false := decide_eq_false c20
                            clear c20
                            (first | rw [c20b0] | (simp only [i64_w, i32_w]; rw [c20b0]) | skip)
                            have H' := Aside0.mk H
                            clear H
                            go_wp2
                            go_meet
                            case rel => exact ⟨_, (false), (by first | rfl | (simp; done) | (simp [*]; done)), H', ⟨by have := HK1.out; have := HJ6.out; have := HJ13.out; first | omega | exact Nat.le_refl _⟩, ⟨by repeat (first | (with_reducible first | exact HB.out | apply below_alloc | apply pw_below_drewN | apply below_drew1) | exact HB.out)⟩⟩
                        case rest =>
                          clear HC19
                          try clear c1
                          try clear p1
                          try clear q1
                          try clear hx1
                          try clear c2
                          try clear p2
                          try clear c3
                          try clear p6
                          try clear c8
                          try clear c8b0
                          try clear c9
                          try clear c10
                          try clear c10b0
                          try clear c10b1
                          try clear c11
                          try clear c11b0
                          try clear c11b1
                          try clear c12
                          try clear c12b0
                          try clear c12b1
                          try clear c15
                          try clear q15
                          try clear c17
                          try clear c17b0
                          try clear c17b1
                          try clear c18
                          try clear p19
                          try clear q19
                          try clear hx19
                          try clear c20
                          try clear c20b0
                          try clear c21
                          try clear c21b0
                          try clear hx197_0
                          try clear p197
                          try clear p2
                          try clear p6
                          try clear q015
                          try clear q1
                          try clear q15
                          try clear q197
                          obtain ⟨kq, x55_18, rfl, HA, HJ18, HB⟩ := hcut
                          cases kq with
                          | zero => exact absurd HA.out (by simp [onairlaw06_RightsFirstError.j3])
                          | succ kj18 =>
                            have H := HA.out
                            clear HA
                            simp only [onairlaw06_RightsFirstError.j3] at H
                            by_cases c22 : x55_18 = true
                            · subst c22
                              have H1 : (if x8_1.size + 13 ≤ 9223372036854775807 then (if x11_1 = t185 then (if 0 ≤ (wrap64 ((t195.size : Int) - 1)) then (if (wrap64 ((t195.size : Int) - 1)) ≤ (t195.size : Int) then (if (t195.extract 0 ((wrap64 ((t195.size : Int) - 1)) : Int).toNat).size + 2 ≤ 9223372036854775807 then (if (x8_1 ++ (⟨#[35, 32, 97, 32, 99, 111, 109, 109, 101, 110, 116, 10, 10]⟩ : ByteArray)).size + ((t195.extract 0 ((wrap64 ((t195.size : Int) - 1)) : Int).toNat) ++ (⟨#[32, 10]⟩ : ByteArray)).size ≤ 9223372036854775807 then (onairlaw06_RightsFirstError.l0 kj18 l0 l1 t185 t184 ((x8_1 ++ (⟨#[35, 32, 97, 32, 99, 111, 109, 109, 101, 110, 116, 10, 10]⟩ : ByteArray)) ++ ((t195.extract 0 ((wrap64 ((t195.size : Int) - 1)) : Int).toNat) ++ (⟨#[32, 10]⟩ : ByteArray))) (wrap64 ((wrap64 (x9_1 + 2)) + 1)) (wrap64 ((wrap64 (x9_1 + 2)) + 1)) (wrap64 (x11_1 + 1)) (wrap64 (x12_1 + 1))) else (none)) else (none)) else (none)) else (none)) else (if (x8_1 ++ (⟨#[35, 32, 97, 32, 99, 111, 109, 109, 101, 110, 116, 10, 10]⟩ : ByteArray)).size + t195.size ≤ 9223372036854775807 then (onairlaw06_RightsFirstError.l0 kj18 l0 l1 t185 t184 ((x8_1 ++ (⟨#[35, 32, 97, 32, 99, 111, 109, 109, 101, 110, 116, 10, 10]⟩ : ByteArray)) ++ t195) (wrap64 ((wrap64 (x9_1 + 2)) + 1)) x10_1 (wrap64 (x11_1 + 1)) (wrap64 (x12_1 + 1))) else (none))) else (none)) = some r := by rw [if_pos rfl] at H; exact H
                              clear H
                              have H := H1
                              clear H1
                              by_cases c23 : x8_1.size + 13 ≤ 9223372036854775807
                              · rw [if_pos c23] at H
                                have c23b0 := eq_true c23
                                have c23b1 : decide (x8_1.size + 13 ≤ 9223372036854775807) = true := decide_eq_true c23
                                try have c23b2 : (9223372036854775807 < x8_1.size + 13) = False := eq_false (Nat.not_lt.2 c23)
                                by_cases c24 : x11_1 = t185
                                · rw [if_pos c24] at H
                                  have c24b0 : (x11_1 == t185) = true := beq_iff_eq.mpr c24
                                  have c24b1 : (x11_1 != t185) = false := bne_eq_false_iff_eq.mpr c24
                                  clear c24
                                  obtain ⟨ji25, hji25⟩ : ∃ j_ : Int, (wrap64 ((t195.size : Int) - 1)) = j_ := ⟨_, rfl⟩
                                  replace H : (if 0 ≤ (ji25) then (if (ji25) ≤ (t195.size : Int) then (if (t195.extract 0 ((ji25) : Int).toNat).size + 2 ≤ 9223372036854775807 then (if (x8_1 ++ (⟨#[35, 32, 97, 32, 99, 111, 109, 109, 101, 110, 116, 10, 10]⟩ : ByteArray)).size + ((t195.extract 0 ((ji25) : Int).toNat) ++ (⟨#[32, 10]⟩ : ByteArray)).size ≤ 9223372036854775807 then (onairlaw06_RightsFirstError.l0 kj18 l0 l1 t185 t184 ((x8_1 ++ (⟨#[35, 32, 97, 32, 99, 111, 109, 109, 101, 110, 116, 10, 10]⟩ : ByteArray)) ++ ((t195.extract 0 ((ji25) : Int).toNat) ++ (⟨#[32, 10]⟩ : ByteArray))) (wrap64 ((wrap64 (x9_1 + 2)) + 1)) (wrap64 ((wrap64 (x9_1 + 2)) + 1)) (wrap64 (x11_1 + 1)) (wrap64 (x12_1 + 1))) else (none)) else (none)) else (none)) else (none)) = some r := by first | (rw [hji25] at H; exact H) | (simp only [hji25] at H ⊢; exact H)
                                  have hji25w : (IntKind.i64.wrap ((t195.size : Int) - 1)) = ji25 := (i64_w _).trans hji25
                                  by_cases c26 : 0 ≤ (ji25)
                                  · rw [if_pos c26] at H
                                    have c26b0 := eq_true c26
                                    have c26b1 : decide (0 ≤ (ji25)) = true := decide_eq_true c26
                                    clear c26
                                    by_cases c27 : (ji25) ≤ (t195.size : Int)
                                    · rw [if_pos c27] at H
                                      have c27b0 := eq_true c27
                                      have c27b1 : decide ((ji25) ≤ (t195.size : Int)) = true := decide_eq_true c27
                                      clear c27
                                      by_cases c28 : (t195.extract 0 ((ji25) : Int).toNat).size + 2 ≤ 9223372036854775807
                                      · rw [if_pos c28] at H
                                        have c28b0 := eq_true c28
                                        have c28b1 : decide ((t195.extract 0 ((ji25) : Int).toNat).size + 2 ≤ 9223372036854775807) = true := decide_eq_true c28
                                        have c28b9 : (9223372036854775807 < (ji25).toNat + 2) = False := eq_false (by have h := c28; rw [ByteArray.size_extract, Nat.min_eq_left (Int.toNat_le.2 (of_eq_true c27b0)), Nat.sub_zero] at h; exact Nat.not_lt.2 h)
                                        try have c28b2 : (9223372036854775807 < (t195.extract 0 ((ji25) : Int).toNat).size + 2) = False := eq_false (Nat.not_lt.2 c28)
                                        by_cases c29 : (x8_1 ++ (⟨#[35, 32, 97, 32, 99, 111, 109, 109, 101, 110, 116, 10, 10]⟩ : ByteArray)).size + ((t195.extract 0 ((ji25) : Int).toNat) ++ (⟨#[32, 10]⟩ : ByteArray)).size ≤ 9223372036854775807
                                        · rw [if_pos c29] at H
                                          have c29b0 := eq_true c29
                                          have c29b1 : decide ((x8_1 ++ (⟨#[35, 32, 97, 32, 99, 111, 109, 109, 101, 110, 116, 10, 10]⟩ : ByteArray)).size + ((t195.extract 0 ((ji25) : Int).toNat) ++ (⟨#[32, 10]⟩ : ByteArray)).size ≤ 9223372036854775807) = true := decide_eq_true c29
                                          try have c29b2 : (9223372036854775807 < (x8_1 ++ (⟨#[35, 32, 97, 32, 99, 111, 109, 109, 101, 110, 116, 10, 10]⟩ : ByteArray)).size + ((t195.extract 0 ((ji25) : Int).toNat) ++ (⟨#[32, 10]⟩ : ByteArray)).size) = False := eq_false (Nat.not_lt.2 c29)
                                          have H' := Aside0.mk H
                                          clear H
                                          go_wp2
                                          go_roundg kj18
                                          case measure => have := HK1.out; have := HJ6.out; have := HJ13.out; have := HJ18.out; omega
                                          case rel => exact ⟨((x8_1 ++ (⟨#[35, 32, 97, 32, 99, 111, 109, 109, 101, 110, 116, 10, 10]⟩ : ByteArray)) ++ ((t195.extract 0 ((ji25) : Int).toNat) ++ (⟨#[32, 10]⟩ : ByteArray))), (wrap64 ((wrap64 (x9_1 + 2)) + 1)), (wrap64 ((wrap64 (x9_1 + 2)) + 1)), (wrap64 (x11_1 + 1)), (wrap64 (x12_1 + 1)), (by first | rfl | (simp; done) | (simp only [← hji25] <;> (first | rfl | simp)) | (simp [*]; done)), (by first | rfl | (simp; done) | (simp [*]; done)), (by first | rfl | (simp; done) | (simp [*]; done)), (by first | rfl | (simp; done) | (simp [*]; done)), (by first | rfl | (simp; done) | (simp [*]; done)), H', ⟨by have := HK1.out; have := HJ6.out; have := HJ13.out; have := HJ18.out; omega⟩, ⟨by repeat (first | (with_reducible first | exact HB.out | apply below_alloc | apply pw_below_drewN | apply below_drew1) | exact HB.out)⟩⟩
                                        · rw [if_neg c29] at H
                                          exact absurd H (by simp)
                                      · rw [if_neg c28] at H
                                        exact absurd H (by simp)
                                    · rw [if_neg c27] at H
                                      exact absurd H (by simp)
                                  · rw [if_neg c26] at H
                                    exact absurd H (by simp)
                                · rw [if_neg c24] at H
                                  have c24b0 : (x11_1 == t185) = false := beq_eq_false_iff_ne.mpr c24
                                  have c24b1 : (x11_1 != t185) = true := bne_iff_ne.mpr c24
                                  by_cases c30 : (x8_1 ++ (⟨#[35, 32, 97, 32, 99, 111, 109, 109, 101, 110, 116, 10, 10]⟩ : ByteArray)).size + t195.size ≤ 9223372036854775807
                                  · rw [if_pos c30] at H
                                    have c30b0 := eq_true c30
                                    have c30b1 : decide ((x8_1 ++ (⟨#[35, 32, 97, 32, 99, 111, 109, 109, 101, 110, 116, 10, 10]⟩ : ByteArray)).size + t195.size ≤ 9223372036854775807) = true := decide_eq_true c30
                                    try have c30b2 : (9223372036854775807 < (x8_1 ++ (⟨#[35, 32, 97, 32, 99, 111, 109, 109, 101, 110, 116, 10, 10]⟩ : ByteArray)).size + t195.size) = False := eq_false (Nat.not_lt.2 c30)
                                    have H' := Aside0.mk H
                                    clear H
                                    go_wp2
                                    go_roundg kj18
                                    case measure => have := HK1.out; have := HJ6.out; have := HJ13.out; have := HJ18.out; omega
                                    case rel => exact ⟨((x8_1 ++ (⟨#[35, 32, 97, 32, 99, 111, 109, 109, 101, 110, 116, 10, 10]⟩ : ByteArray)) ++ t195), (wrap64 ((wrap64 (x9_1 + 2)) + 1)), (x10_1), (wrap64 (x11_1 + 1)), (wrap64 (x12_1 + 1)), (by first | rfl | (simp; done) | (simp [*]; done)), (by first | rfl | (simp; done) | (simp [*]; done)), (by first | rfl | (simp; done) | (simp [*]; done)), (by first | rfl | (simp; done) | (simp [*]; done)), (by first | rfl | (simp; done) | (simp [*]; done)), H', ⟨by have := HK1.out; have := HJ6.out; have := HJ13.out; have := HJ18.out; omega⟩, ⟨by repeat (first | (with_reducible first | exact HB.out | apply below_alloc | apply pw_below_drewN | apply below_drew1) | exact HB.out)⟩⟩
                                  · rw [if_neg c30] at H
                                    exact absurd H (by simp)
                              · rw [if_neg c23] at H
                                exact absurd H (by simp)
                            · replace c22 := Bool.eq_false_iff.mpr c22
                              subst c22
                              have H1 : (if x11_1 = t185 then (if 0 ≤ (wrap64 ((t195.size : Int) - 1)) then (if (wrap64 ((t195.size : Int) - 1)) ≤ (t195.size : Int) then (if (t195.extract 0 ((wrap64 ((t195.size : Int) - 1)) : Int).toNat).size + 2 ≤ 9223372036854775807 then (if x8_1.size + ((t195.extract 0 ((wrap64 ((t195.size : Int) - 1)) : Int).toNat) ++ (⟨#[32, 10]⟩ : ByteArray)).size ≤ 9223372036854775807 then (onairlaw06_RightsFirstError.l0 kj18 l0 l1 t185 t184 (x8_1 ++ ((t195.extract 0 ((wrap64 ((t195.size : Int) - 1)) : Int).toNat) ++ (⟨#[32, 10]⟩ : ByteArray))) (wrap64 (x9_1 + 1)) (wrap64 (x9_1 + 1)) (wrap64 (x11_1 + 1)) (wrap64 (x12_1 + 1))) else (none)) else (none)) else (none)) else (none)) else (if x8_1.size + t195.size ≤ 9223372036854775807 then (onairlaw06_RightsFirstError.l0 kj18 l0 l1 t185 t184 (x8_1 ++ t195) (wrap64 (x9_1 + 1)) x10_1 (wrap64 (x11_1 + 1)) (wrap64 (x12_1 + 1))) else (none))) = some r := by rw [if_neg (show ¬ (false = true) by decide)] at H; exact H
                              clear H
                              have H := H1
                              clear H1
                              by_cases c31 : x11_1 = t185
                              · rw [if_pos c31] at H
                                have c31b0 : (x11_1 == t185) = true := beq_iff_eq.mpr c31
                                have c31b1 : (x11_1 != t185) = false := bne_eq_false_iff_eq.mpr c31
                                clear c31
                                obtain ⟨ji32, hji32⟩ : ∃ j_ : Int, (wrap64 ((t195.size : Int) - 1)) = j_ := ⟨_, rfl⟩
                                replace H : (if 0 ≤ (ji32) then (if (ji32) ≤ (t195.size : Int) then (if (t195.extract 0 ((ji32) : Int).toNat).size + 2 ≤ 9223372036854775807 then (if x8_1.size + ((t195.extract 0 ((ji32) : Int).toNat) ++ (⟨#[32, 10]⟩ : ByteArray)).size ≤ 9223372036854775807 then (onairlaw06_RightsFirstError.l0 kj18 l0 l1 t185 t184 (x8_1 ++ ((t195.extract 0 ((ji32) : Int).toNat) ++ (⟨#[32, 10]⟩ : ByteArray))) (wrap64 (x9_1 + 1)) (wrap64 (x9_1 + 1)) (wrap64 (x11_1 + 1)) (wrap64 (x12_1 + 1))) else (none)) else (none)) else (none)) else (none)) = some r := by first | (rw [hji32] at H; exact H) | (simp only [hji32] at H ⊢; exact H)
                                have hji32w : (IntKind.i64.wrap ((t195.size : Int) - 1)) = ji32 := (i64_w _).trans hji32
                                by_cases c33 : 0 ≤ (ji32)
                                · rw [if_pos c33] at H
                                  have c33b0 := eq_true c33
                                  have c33b1 : decide (0 ≤ (ji32)) = true := decide_eq_true c33
                                  clear c33
                                  by_cases c34 : (ji32) ≤ (t195.size : Int)
                                  · rw [if_pos c34] at H
                                    have c34b0 := eq_true c34
                                    have c34b1 : decide ((ji32) ≤ (t195.size : Int)) = true := decide_eq_true c34
                                    clear c34
                                    by_cases c35 : (t195.extract 0 ((ji32) : Int).toNat).size + 2 ≤ 9223372036854775807
                                    · rw [if_pos c35] at H
                                      have c35b0 := eq_true c35
                                      have c35b1 : decide ((t195.extract 0 ((ji32) : Int).toNat).size + 2 ≤ 9223372036854775807) = true := decide_eq_true c35
                                      have c35b9 : (9223372036854775807 < (ji32).toNat + 2) = False := eq_false (by have h := c35; rw [ByteArray.size_extract, Nat.min_eq_left (Int.toNat_le.2 (of_eq_true c34b0)), Nat.sub_zero] at h; exact Nat.not_lt.2 h)
                                      try have c35b2 : (9223372036854775807 < (t195.extract 0 ((ji32) : Int).toNat).size + 2) = False := eq_false (Nat.not_lt.2 c35)
                                      by_cases c36 : x8_1.size + ((t195.extract 0 ((ji32) : Int).toNat) ++ (⟨#[32, 10]⟩ : ByteArray)).size ≤ 9223372036854775807
                                      · rw [if_pos c36] at H
                                        have c36b0 := eq_true c36
                                        have c36b1 : decide (x8_1.size + ((t195.extract 0 ((ji32) : Int).toNat) ++ (⟨#[32, 10]⟩ : ByteArray)).size ≤ 9223372036854775807) = true := decide_eq_true c36
                                        try have c36b2 : (9223372036854775807 < x8_1.size + ((t195.extract 0 ((ji32) : Int).toNat) ++ (⟨#[32, 10]⟩ : ByteArray)).size) = False := eq_false (Nat.not_lt.2 c36)
                                        have H' := Aside0.mk H
                                        clear H
                                        go_wp2
                                        go_roundg kj18
                                        case measure => have := HK1.out; have := HJ6.out; have := HJ13.out; have := HJ18.out; omega
                                        case rel => exact ⟨(x8_1 ++ ((t195.extract 0 ((ji32) : Int).toNat) ++ (⟨#[32, 10]⟩ : ByteArray))), (wrap64 (x9_1 + 1)), (wrap64 (x9_1 + 1)), (wrap64 (x11_1 + 1)), (wrap64 (x12_1 + 1)), (by first | rfl | (simp; done) | (simp only [← hji32] <;> (first | rfl | simp)) | (simp [*]; done)), (by first | rfl | (simp; done) | (simp [*]; done)), (by first | rfl | (simp; done) | (simp [*]; done)), (by first | rfl | (simp; done) | (simp [*]; done)), (by first | rfl | (simp; done) | (simp [*]; done)), H', ⟨by have := HK1.out; have := HJ6.out; have := HJ13.out; have := HJ18.out; omega⟩, ⟨by repeat (first | (with_reducible first | exact HB.out | apply below_alloc | apply pw_below_drewN | apply below_drew1) | exact HB.out)⟩⟩
                                      · rw [if_neg c36] at H
                                        exact absurd H (by simp)
                                    · rw [if_neg c35] at H
                                      exact absurd H (by simp)
                                  · rw [if_neg c34] at H
                                    exact absurd H (by simp)
                                · rw [if_neg c33] at H
                                  exact absurd H (by simp)
                              · rw [if_neg c31] at H
                                have c31b0 : (x11_1 == t185) = false := beq_eq_false_iff_ne.mpr c31
                                have c31b1 : (x11_1 != t185) = true := bne_iff_ne.mpr c31
                                by_cases c37 : x8_1.size + t195.size ≤ 9223372036854775807
                                · rw [if_pos c37] at H
                                  have c37b0 := eq_true c37
                                  have c37b1 : decide (x8_1.size + t195.size ≤ 9223372036854775807) = true := decide_eq_true c37
                                  try have c37b2 : (9223372036854775807 < x8_1.size + t195.size) = False := eq_false (Nat.not_lt.2 c37)
                                  have H' := Aside0.mk H
                                  clear H
                                  go_wp2
                                  go_roundg kj18
                                  case measure => have := HK1.out; have := HJ6.out; have := HJ13.out; have := HJ18.out; omega
                                  case rel => exact ⟨(x8_1 ++ t195), (wrap64 (x9_1 + 1)), (x10_1), (wrap64 (x11_1 + 1)), (wrap64 (x12_1 + 1)), (by first | rfl | (simp; done) | (simp [*]; done)), (by first | rfl | (simp; done) | (simp [*]; done)), (by first | rfl | (simp; done) | (simp [*]; done)), (by first | rfl | (simp; done) | (simp [*]; done)), (by first | rfl | (simp; done) | (simp [*]; done)), H', ⟨by have := HK1.out; have := HJ6.out; have := HJ13.out; have := HJ18.out; omega⟩, ⟨by repeat (first | (with_reducible first | exact HB.out | apply below_alloc | apply pw_below_drewN | apply below_drew1) | exact HB.out)⟩⟩
                                · rw [if_neg c37] at H
                                  exact absurd H (by simp)
                · rw [if_neg c12] at H
                  exact absurd H (by simp)
              · rw [if_neg c11] at H
                exact absurd H (by simp)
            · rw [if_neg c10] at H
              exact absurd H (by simp)
          · replace c9 := Bool.eq_false_iff.mpr c9
            subst c9
            have H1 : ((rights_Parse.f x8_1).bind fun bt186 => (if x10_1 = 0 then (if t184 = true then (if bt186.2.2 = 0 then (if (bt186.1.length : Int) = x11_1 then (some (bt186.2.1 == 0)) else (some false)) else (some false)) else (some false)) else (if t184 = true then (if bt186.2.2 = 60 then (if (bt186.1.length : Int) = 0 then (some (bt186.2.1 == x10_1)) else (some false)) else (some false)) else (some false)))) = some r := by rw [if_neg (show ¬ (false = true) by decide)] at H; exact H
            clear H
            have H := H1
            clear H1
            replace H := Option.bind_eq_some_iff.mp H
            obtain ⟨⟨t186, t187, t188⟩, A380, H⟩ := H
            replace H : (if x10_1 = 0 then (if t184 = true then (if t188 = 0 then (if (t186.length : Int) = x11_1 then (some (t187 == 0)) else (some false)) else (some false)) else (some false)) else (if t184 = true then (if t188 = 60 then (if (t186.length : Int) = 0 then (some (t187 == x10_1)) else (some false)) else (some false)) else (some false))) = some r := H
            have A38 := Aside0.mk A380
            clear A380
            by_cases c39 : x10_1 = 0
            · rw [if_pos c39] at H
              have c39b0 : (x10_1 == 0) = true := beq_iff_eq.mpr c39
              have c39b1 : (x10_1 != 0) = false := bne_eq_false_iff_eq.mpr c39
              clear c39
              by_cases c40 : t184 = true
              · subst c40
                have H1 : (if t188 = 0 then (if (t186.length : Int) = x11_1 then (some (t187 == 0)) else (some false)) else (some false)) = some r := by rw [if_pos rfl] at H; exact H
                clear H
                have H := H1
                clear H1
                by_cases c41 : t188 = 0
                · rw [if_pos c41] at H
                  have c41b0 : (t188 == 0) = true := beq_iff_eq.mpr c41
                  have c41b1 : (t188 != 0) = false := bne_eq_false_iff_eq.mpr c41
                  clear c41
                  by_cases c42 : (t186.length : Int) = x11_1
                  · rw [if_pos c42] at H
                    have c42b0 : ((t186.length : Int) == x11_1) = true := beq_iff_eq.mpr c42
                    have c42b1 : ((t186.length : Int) != x11_1) = false := bne_eq_false_iff_eq.mpr c42
                    clear c42
                    obtain rfl := Option.some.inj H
                    go_wp2_with (first | ((with_reducible refine gate_callee (f := 11) rfl ?_); refine goesL_ (some 79) rfl rfl Tryz.func11 (by kernel_rfl) rfl #[.string x8_1] rfl (by (try simp only [List.map_toArray, List.map_cons, List.map_nil]); first | done | rfl | (simp only [List.length_drop, List.length_take]; rfl)) ?_; (with_reducible refine (rights_Parse.calls x8_1 t186 t187 t188 _ A38.out (by first | exact HT.out | exact TabW.below HT.out (by repeat (first | (with_reducible first | exact HB.out | apply below_alloc | apply pw_below_drewN | apply below_drew1) | exact HB.out)))).mono ?_); rintro e w43 ⟨v189, rfl, ho0, hb⟩; refine ⟨_, rfl, ?_⟩; have n0_ := Aside0.mk (Kd.R_lower ho0 (below_size (by repeat (first | (with_reducible first | exact HB.out | apply below_alloc | apply pw_below_drewN | apply below_drew1) | exact HB.out)))); have n1_ := Aside0.mk (below_step (by repeat (first | (with_reducible first | exact HB.out | apply below_alloc | apply pw_below_drewN | apply below_drew1) | exact HB.out)) hb); clear HB; have HO190 := n0_; have HB := n1_; clear n0_ n1_; (try clear hb); (try clear hb2); (try clear hk); (try clear hi); (try clear ho0); obtain ⟨Ao44, co44, eo44⟩ := Kd.R_slice HO190.out; subst eo44))
                    go_ret
                    exact ⟨by first | rfl | (simp [errW_none, errW_some] <;> rfl) | (simp [*, errW_none, errW_some] <;> rfl), by repeat (first | (with_reducible first | exact HB.out | apply below_alloc | apply pw_below_drewN | apply below_drew1) | exact HB.out)⟩
                  · rw [if_neg c42] at H
                    have c42b0 : ((t186.length : Int) == x11_1) = false := beq_eq_false_iff_ne.mpr c42
                    have c42b1 : ((t186.length : Int) != x11_1) = true := bne_iff_ne.mpr c42
                    obtain rfl := Option.some.inj H
                    go_wp2_with (first | ((with_reducible refine gate_callee (f := 11) rfl ?_); refine goesL_ (some 79) rfl rfl Tryz.func11 (by kernel_rfl) rfl #[.string x8_1] rfl (by (try simp only [List.map_toArray, List.map_cons, List.map_nil]); first | done | rfl | (simp only [List.length_drop, List.length_take]; rfl)) ?_; (with_reducible refine (rights_Parse.calls x8_1 t186 t187 t188 _ A38.out (by first | exact HT.out | exact TabW.below HT.out (by repeat (first | (with_reducible first | exact HB.out | apply below_alloc | apply pw_below_drewN | apply below_drew1) | exact HB.out)))).mono ?_); rintro e w45 ⟨v189, rfl, ho0, hb⟩; refine ⟨_, rfl, ?_⟩; have n0_ := Aside0.mk (Kd.R_lower ho0 (below_size (by repeat (first | (with_reducible first | exact HB.out | apply below_alloc | apply pw_below_drewN | apply below_drew1) | exact HB.out)))); have n1_ := Aside0.mk (below_step (by repeat (first | (with_reducible first | exact HB.out | apply below_alloc | apply pw_below_drewN | apply below_drew1) | exact HB.out)) hb); clear HB; have HO190 := n0_; have HB := n1_; clear n0_ n1_; (try clear hb); (try clear hb2); (try clear hk); (try clear hi); (try clear ho0); obtain ⟨Ao46, co46, eo46⟩ := Kd.R_slice HO190.out; subst eo46))
                    go_ret
                    exact ⟨by first | rfl | (simp [errW_none, errW_some] <;> rfl) | (simp [*, errW_none, errW_some] <;> rfl), by repeat (first | (with_reducible first | exact HB.out | apply below_alloc | apply pw_below_drewN | apply below_drew1) | exact HB.out)⟩
                · rw [if_neg c41] at H
                  have c41b0 : (t188 == 0) = false := beq_eq_false_iff_ne.mpr c41
                  have c41b1 : (t188 != 0) = true := bne_iff_ne.mpr c41
                  obtain rfl := Option.some.inj H
                  go_wp2_with (first | ((with_reducible refine gate_callee (f := 11) rfl ?_); refine goesL_ (some 79) rfl rfl Tryz.func11 (by kernel_rfl) rfl #[.string x8_1] rfl (by (try simp only [List.map_toArray, List.map_cons, List.map_nil]); first | done | rfl | (simp only [List.length_drop, List.length_take]; rfl)) ?_; (with_reducible refine (rights_Parse.calls x8_1 t186 t187 t188 _ A38.out (by first | exact HT.out | exact TabW.below HT.out (by repeat (first | (with_reducible first | exact HB.out | apply below_alloc | apply pw_below_drewN | apply below_drew1) | exact HB.out)))).mono ?_); rintro e w47 ⟨v189, rfl, ho0, hb⟩; refine ⟨_, rfl, ?_⟩; have n0_ := Aside0.mk (Kd.R_lower ho0 (below_size (by repeat (first | (with_reducible first | exact HB.out | apply below_alloc | apply pw_below_drewN | apply below_drew1) | exact HB.out)))); have n1_ := Aside0.mk (below_step (by repeat (first | (with_reducible first | exact HB.out | apply below_alloc | apply pw_below_drewN | apply below_drew1) | exact HB.out)) hb); clear HB; have HO190 := n0_; have HB := n1_; clear n0_ n1_; (try clear hb); (try clear hb2); (try clear hk); (try clear hi); (try clear ho0)))
                  go_ret
                  exact ⟨by first | rfl | (simp [errW_none, errW_some] <;> rfl) | (simp [*, errW_none, errW_some] <;> rfl), by repeat (first | (with_reducible first | exact HB.out | apply below_alloc | apply pw_below_drewN | apply below_drew1) | exact HB.out)⟩
              · replace c40 := Bool.eq_false_iff.mpr c40
                subst c40
                have H1 : (some false) = some r := by rw [if_neg (show ¬ (false = true) by decide)] at H; exact H
                clear H
                have H := H1
                clear H1
                obtain rfl := Option.some.inj H
                go_wp2_with (first | ((with_reducible refine gate_callee (f := 11) rfl ?_); refine goesL_ (some 79) rfl rfl Tryz.func11 (by kernel_rfl) rfl #[.string x8_1] rfl (by (try simp only [List.map_toArray, List.map_cons, List.map_nil]); first | done | rfl | (simp only [List.length_drop, List.length_take]; rfl)) ?_; (with_reducible refine (rights_Parse.calls x8_1 t186 t187 t188 _ A38.out (by first | exact HT.out | exact TabW.below HT.out (by repeat (first | (with_reducible first | exact HB.out | apply below_alloc | apply pw_below_drewN | apply below_drew1) | exact HB.out)))).mono ?_); rintro e w48 ⟨v189, rfl, ho0, hb⟩; refine ⟨_, rfl, ?_⟩; have n0_ := Aside0.mk (Kd.R_lower ho0 (below_size (by repeat (first | (with_reducible first | exact HB.out | apply below_alloc | apply pw_below_drewN | apply below_drew1) | exact HB.out)))); have n1_ := Aside0.mk (below_step (by repeat (first | (with_reducible first | exact HB.out | apply below_alloc | apply pw_below_drewN | apply below_drew1) | exact HB.out)) hb); clear HB; have HO190 := n0_; have HB := n1_; clear n0_ n1_; (try clear hb); (try clear hb2); (try clear hk); (try clear hi); (try clear ho0)))
                go_ret
                exact ⟨by first | rfl | (simp [errW_none, errW_some] <;> rfl) | (simp [*, errW_none, errW_some] <;> rfl), by repeat (first | (with_reducible first | exact HB.out | apply below_alloc | apply pw_below_drewN | apply below_drew1) | exact HB.out)⟩
            · rw [if_neg c39] at H
              have c39b0 : (x10_1 == 0) = false := beq_eq_false_iff_ne.mpr c39
              have c39b1 : (x10_1 != 0) = true := bne_iff_ne.mpr c39
              by_cases c49 : t184 = true
              · subst c49
                have H1 : (if t188 = 60 then (if (t186.length : Int) = 0 then (some (t187 == x10_1)) else (some false)) else (some false)) = some r := by rw [if_pos rfl] at H; exact H
                clear H
                have H := H1
                clear H1
                by_cases c50 : t188 = 60
                · rw [if_pos c50] at H
                  have c50b0 : (t188 == 60) = true := beq_iff_eq.mpr c50
                  have c50b1 : (t188 != 60) = false := bne_eq_false_iff_eq.mpr c50
                  clear c50
                  by_cases c51 : (t186.length : Int) = 0
                  · rw [if_pos c51] at H
                    have c51b0 : ((t186.length : Int) == 0) = true := beq_iff_eq.mpr c51
                    have c51b1 : ((t186.length : Int) != 0) = false := bne_eq_false_iff_eq.mpr c51
                    clear c51
                    obtain rfl := Option.some.inj H
                    go_wp2_with (first | ((with_reducible refine gate_callee (f := 11) rfl ?_); refine goesL_ (some 79) rfl rfl Tryz.func11 (by kernel_rfl) rfl #[.string x8_1] rfl (by (try simp only [List.map_toArray, List.map_cons, List.map_nil]); first | done | rfl | (simp only [List.length_drop, List.length_take]; rfl)) ?_; (with_reducible refine (rights_Parse.calls x8_1 t186 t187 t188 _ A38.out (by first | exact HT.out | exact TabW.below HT.out (by repeat (first | (with_reducible first | exact HB.out | apply below_alloc | apply pw_below_drewN | apply below_drew1) | exact HB.out)))).mono ?_); rintro e w52 ⟨v189, rfl, ho0, hb⟩; refine ⟨_, rfl, ?_⟩; have n0_ := Aside0.mk (Kd.R_lower ho0 (below_size (by repeat (first | (with_reducible first | exact HB.out | apply below_alloc | apply pw_below_drewN | apply below_drew1) | exact HB.out)))); have n1_ := Aside0.mk (below_step (by repeat (first | (with_reducible first | exact HB.out | apply below_alloc | apply pw_below_drewN | apply below_drew1) | exact HB.out)) hb); clear HB; have HO190 := n0_; have HB := n1_; clear n0_ n1_; (try clear hb); (try clear hb2); (try clear hk); (try clear hi); (try clear ho0); obtain ⟨Ao53, co53, eo53⟩ := Kd.R_slice HO190.out; subst eo53))
                    go_ret
                    exact ⟨by first | rfl | (simp [errW_none, errW_some] <;> rfl) | (simp [*, errW_none, errW_some] <;> rfl), by repeat (first | (with_reducible first | exact HB.out | apply below_alloc | apply pw_below_drewN | apply below_drew1) | exact HB.out)⟩
                  · rw [if_neg c51] at H
                    have c51b0 : ((t186.length : Int) == 0) = false := beq_eq_false_iff_ne.mpr c51
                    have c51b1 : ((t186.length : Int) != 0) = true := bne_iff_ne.mpr c51
                    have c51b2 : ¬ (t186 = []) := fun h_ => c51 (by rw [h_]; rfl)
                    obtain rfl := Option.some.inj H
                    go_wp2_with (first | ((with_reducible refine gate_callee (f := 11) rfl ?_); refine goesL_ (some 79) rfl rfl Tryz.func11 (by kernel_rfl) rfl #[.string x8_1] rfl (by (try simp only [List.map_toArray, List.map_cons, List.map_nil]); first | done | rfl | (simp only [List.length_drop, List.length_take]; rfl)) ?_; (with_reducible refine (rights_Parse.calls x8_1 t186 t187 t188 _ A38.out (by first | exact HT.out | exact TabW.below HT.out (by repeat (first | (with_reducible first | exact HB.out | apply below_alloc | apply pw_below_drewN | apply below_drew1) | exact HB.out)))).mono ?_); rintro e w54 ⟨v189, rfl, ho0, hb⟩; refine ⟨_, rfl, ?_⟩; have n0_ := Aside0.mk (Kd.R_lower ho0 (below_size (by repeat (first | (with_reducible first | exact HB.out | apply below_alloc | apply pw_below_drewN | apply below_drew1) | exact HB.out)))); have n1_ := Aside0.mk (below_step (by repeat (first | (with_reducible first | exact HB.out | apply below_alloc | apply pw_below_drewN | apply below_drew1) | exact HB.out)) hb); clear HB; have HO190 := n0_; have HB := n1_; clear n0_ n1_; (try clear hb); (try clear hb2); (try clear hk); (try clear hi); (try clear ho0); obtain ⟨Ao55, co55, eo55⟩ := Kd.R_slice HO190.out; subst eo55))
                    go_ret
                    exact ⟨by first | rfl | (simp [errW_none, errW_some] <;> rfl) | (simp [*, errW_none, errW_some] <;> rfl), by repeat (first | (with_reducible first | exact HB.out | apply below_alloc | apply pw_below_drewN | apply below_drew1) | exact HB.out)⟩
                · rw [if_neg c50] at H
                  have c50b0 : (t188 == 60) = false := beq_eq_false_iff_ne.mpr c50
                  have c50b1 : (t188 != 60) = true := bne_iff_ne.mpr c50
                  obtain rfl := Option.some.inj H
                  go_wp2_with (first | ((with_reducible refine gate_callee (f := 11) rfl ?_); refine goesL_ (some 79) rfl rfl Tryz.func11 (by kernel_rfl) rfl #[.string x8_1] rfl (by (try simp only [List.map_toArray, List.map_cons, List.map_nil]); first | done | rfl | (simp only [List.length_drop, List.length_take]; rfl)) ?_; (with_reducible refine (rights_Parse.calls x8_1 t186 t187 t188 _ A38.out (by first | exact HT.out | exact TabW.below HT.out (by repeat (first | (with_reducible first | exact HB.out | apply below_alloc | apply pw_below_drewN | apply below_drew1) | exact HB.out)))).mono ?_); rintro e w56 ⟨v189, rfl, ho0, hb⟩; refine ⟨_, rfl, ?_⟩; have n0_ := Aside0.mk (Kd.R_lower ho0 (below_size (by repeat (first | (with_reducible first | exact HB.out | apply below_alloc | apply pw_below_drewN | apply below_drew1) | exact HB.out)))); have n1_ := Aside0.mk (below_step (by repeat (first | (with_reducible first | exact HB.out | apply below_alloc | apply pw_below_drewN | apply below_drew1) | exact HB.out)) hb); clear HB; have HO190 := n0_; have HB := n1_; clear n0_ n1_; (try clear hb); (try clear hb2); (try clear hk); (try clear hi); (try clear ho0)))
                  go_ret
                  exact ⟨by first | rfl | (simp [errW_none, errW_some] <;> rfl) | (simp [*, errW_none, errW_some] <;> rfl), by repeat (first | (with_reducible first | exact HB.out | apply below_alloc | apply pw_below_drewN | apply below_drew1) | exact HB.out)⟩
              · replace c49 := Bool.eq_false_iff.mpr c49
                subst c49
                have H1 : (some false) = some r := by rw [if_neg (show ¬ (false = true) by decide)] at H; exact H
                clear H
                have H := H1
                clear H1
                obtain rfl := Option.some.inj H
                go_wp2_with (first | ((with_reducible refine gate_callee (f := 11) rfl ?_); refine goesL_ (some 79) rfl rfl Tryz.func11 (by kernel_rfl) rfl #[.string x8_1] rfl (by (try simp only [List.map_toArray, List.map_cons, List.map_nil]); first | done | rfl | (simp only [List.length_drop, List.length_take]; rfl)) ?_; (with_reducible refine (rights_Parse.calls x8_1 t186 t187 t188 _ A38.out (by first | exact HT.out | exact TabW.below HT.out (by repeat (first | (with_reducible first | exact HB.out | apply below_alloc | apply pw_below_drewN | apply below_drew1) | exact HB.out)))).mono ?_); rintro e w57 ⟨v189, rfl, ho0, hb⟩; refine ⟨_, rfl, ?_⟩; have n0_ := Aside0.mk (Kd.R_lower ho0 (below_size (by repeat (first | (with_reducible first | exact HB.out | apply below_alloc | apply pw_below_drewN | apply below_drew1) | exact HB.out)))); have n1_ := Aside0.mk (below_step (by repeat (first | (with_reducible first | exact HB.out | apply below_alloc | apply pw_below_drewN | apply below_drew1) | exact HB.out)) hb); clear HB; have HO190 := n0_; have HB := n1_; clear n0_ n1_; (try clear hb); (try clear hb2); (try clear hk); (try clear hi); (try clear ho0)))
                go_ret
                exact ⟨by first | rfl | (simp [errW_none, errW_some] <;> rfl) | (simp [*, errW_none, errW_some] <;> rfl), by repeat (first | (with_reducible first | exact HB.out | apply below_alloc | apply pw_below_drewN | apply below_drew1) | exact HB.out)⟩

def onairref06_within.f (a0 : Int) (a1 : Int) (a2 : Int) : Option (Bool) := if a0 ≥ a1 then (some (decide (a0 ≤ a2))) else (some false)
set_option maxHeartbeats 8000000 in
set_option maxRecDepth 100000 in
theorem onairref06_within.calls (a0 : Int) (a1 : Int) (a2 : Int) (r : Bool) (w : World) (h : onairref06_within.f a0 a1 a2 = some r) :
    Calls Tryz.prog 105 #[.int .i64 a0, .int .i64 a1, .int .i64 a2] w fun e w' => e = .returned (.bool r) ∧ Drawn0 w w' := by
  have H : (if a0 ≥ a1 then (some (decide (a0 ≤ a2))) else (some false)) = some r := h
  clear h
  by_cases c4 : a0 ≥ a1
  · rw [if_pos c4] at H
    have c4b0 : decide (a1 ≤ a0) = true := decide_eq_true c4
    clear c4
    obtain rfl := Option.some.inj H
    go_enter Tryz.func105, Tryz.ntmps105
    go_wp2
    go_ret
    exact ⟨by first | rfl | (simp; done) | (simp [*]; done), by repeat (first | exact Drawn0.refl _ | apply Drawn0.step)⟩
  · rw [if_neg c4] at H
    have c4b0 : decide (a1 ≤ a0) = false := decide_eq_false c4
    clear c4
    obtain rfl := Option.some.inj H
    go_enter Tryz.func105, Tryz.ntmps105
    go_wp2
    go_ret
    exact ⟨by first | rfl | (simp; done) | (simp [*]; done), by repeat (first | exact Drawn0.refl _ | apply Drawn0.step)⟩

end Go.Proofs.YtpefhdjkpdjdpaaGreatDoor.R
namespace Go.Proofs.YtpefhdjkpdjdpaaGreatDoor.R
open Go Go.RowKit Go.Proofs.YtpefhdjkpdjdpaaGreatDoorW.PrintWords Go.Proofs.YtpefhdjkpdjdpaaGreatDoorW.PrintLast Go.Proofs.YtpefhdjkpdjdpaaGreatDoorW.PrintMore
theorem pieces_ne' (c : UInt8) (l : List UInt8) : pieces c l ≠ [] := fun e => by have := pieces_ne c l; rw [e] at this; exact absurd this (by decide)
theorem pieces_end (c : UInt8) : ∀ (a b : List UInt8) (ls : List (List UInt8)), pieces c a = ls ++ [[]] → pieces c (a ++ b) = ls ++ pieces c b
  | [], b, ls, h => by
    have : ls = [] := by
      cases ls with
      | nil => rfl
      | cons x r => simp [pieces] at h
    rw [this]
    rfl
  | x :: a, b, ls, h => by
    have hne := pieces_ne' c a
    unfold pieces at h
    rw [List.cons_append]
    conv => lhs; unfold pieces
    by_cases hx : (x == c) = true
    · rw [if_pos hx] at h ⊢
      cases ls with
      | nil => simp at h; exact absurd h hne
      | cons y r =>
        simp only [List.cons_append, List.cons.injEq] at h
        rw [pieces_end c a b r h.2, ← h.1]
        rfl
    · rw [if_neg hx] at h ⊢
      cases hp : pieces c a with
      | nil => exact absurd hp hne
      | cons p ps =>
        rw [hp] at h
        simp only at h
        cases ls with
        | nil => simp at h
        | cons y r =>
          simp only [List.cons_append, List.cons.injEq] at h
          have := pieces_end c a b (p :: r) (by rw [hp, h.2]; rfl)
          rw [this, List.cons_append]
          simp only
          rw [h.1]
          rfl
/-- What Parse has done with the text so far: its lines, the first damaged one (or none), and how many clauses. -/
structure St (b : List UInt8) (line want k : Nat) : Prop where
  out : ∃ ls, pieces 10 b = ls ++ [[]] ∧ ls.length = line ∧ ((want = 0 ∧ ∃ acc, (linesGo 0 ls).foldl pStep (.ok []) = .ok acc ∧ acc.length = k) ∨ (0 < want ∧ (linesGo 0 ls).foldl pStep (.ok []) = .error want))
theorem St.start : St [] 0 0 0 := ⟨[], rfl, rfl, .inl ⟨rfl, [], rfl, rfl⟩⟩
theorem pieces_line {b l : List UInt8} {ls : List (List UInt8)} (h : pieces 10 b = ls ++ [[]]) (hl : ∀ x ∈ l, x ≠ 10) : pieces 10 (b ++ (l ++ [10])) = (ls ++ [l]) ++ [[]] := by
  rw [pieces_end 10 b _ ls h, pieces_at 10 l [] hl]
  simp [pieces]
theorem St.skip {b : List UInt8} {line want k : Nat} (h : St b line want k) (p : List UInt8) (hs : skipped p = true) (hp : ∀ x ∈ p, x ≠ 10) : St (b ++ (p ++ [10])) (line + 1) want k := by
  obtain ⟨ls, h1, h2, h3⟩ := h
  have e : linesGo 0 (ls ++ [p]) = linesGo 0 ls := by
    rw [linesGo_append]
    simp [linesGo, hs]
  exact ⟨ls ++ [p], pieces_line h1 hp, by simp [h2], by rw [e]; exact h3⟩
theorem St.good {b : List UInt8} {line want k : Nat} (h : St b line want k) (c : S40) (hv : vld c = true) (hk : k < 400) : St (b ++ (lineL c ++ [10])) (line + 1) want (k + 1) := by
  obtain ⟨ls, h1, h2, h3⟩ := h
  obtain ⟨x, q, ex, hx⟩ := line_head c
  have hs : skipped (lineL c) = false := by rw [ex]; exact beq_eq_false_iff_ne.2 hx
  have e : linesGo 0 (ls ++ [lineL c]) = linesGo 0 ls ++ [(0 + ls.length + 1, lineL c)] := by
    rw [linesGo_append]
    simp [linesGo, hs]
  refine ⟨ls ++ [lineL c], pieces_line h1 (line_no10 c hv), by simp [h2], ?_⟩
  rw [e, List.foldl_append]
  rcases h3 with ⟨hw, acc, ha, hl⟩ | ⟨hw, ha⟩
  · refine .inl ⟨hw, acc ++ [c], ?_, by simp [hl]⟩
    rw [ha]
    show pStep (.ok acc) _ = _
    unfold pStep
    simp only
    rw [read_line c hv, if_pos ⟨rfl, by omega⟩]
  · refine .inr ⟨hw, ?_⟩
    rw [ha]
    rfl
theorem St.bad {b : List UInt8} {line k : Nat} (h : St b line 0 k) (c : S40) (hv : vld c = true) : St (b ++ ((lineL c ++ [32]) ++ [10])) (line + 1) (line + 1) (k + 1) := by
  obtain ⟨ls, h1, h2, h3⟩ := h
  obtain ⟨x, q, ex, hx⟩ := line_head c
  have hs : skipped (lineL c ++ [32]) = false := by rw [ex]; exact beq_eq_false_iff_ne.2 hx
  have e : linesGo 0 (ls ++ [lineL c ++ [32]]) = linesGo 0 ls ++ [(0 + ls.length + 1, lineL c ++ [32])] := by
    rw [linesGo_append]
    simp [linesGo, hs]
  have hno : ∀ x ∈ lineL c ++ [32], x ≠ 10 := fun x hx => by
    rcases List.mem_append.1 hx with hx | hx
    · exact line_no10 c hv x hx
    · obtain rfl : x = 32 := by simpa using hx
      decide
  refine ⟨ls ++ [lineL c ++ [32]], pieces_line h1 hno, by simp [h2], .inr ⟨Nat.succ_pos _, ?_⟩⟩
  rw [e, List.foldl_append]
  rcases h3 with ⟨_, acc, ha, hl⟩ | ⟨hw, _⟩
  · rw [ha]
    show pStep (.ok acc) _ = _
    unfold pStep
    simp only
    rw [read_space, if_neg (fun hh => by cases hh.1), h2, Nat.zero_add]
  · omega
theorem St.parse {b : List UInt8} {line want k : Nat} (h : St b line want k) (hb : b.length ≤ 65536) : (want = 0 ∧ ∃ acc, parseT (tx b) = (acc, 0, 0) ∧ acc.length = k) ∨ (0 < want ∧ parseT (tx b) = ([], (want : Int), 60)) := by
  obtain ⟨ls, h1, h2, h3⟩ := h
  have e : linesGo 0 (pieces 10 b) = linesGo 0 ls := by
    rw [h1, linesGo_append]
    simp [linesGo, skipped]
  unfold parseT
  rw [tx_size, if_pos hb, tx_data, e]
  rcases h3 with ⟨hw, acc, ha, hl⟩ | ⟨hw, ha⟩
  · exact .inl ⟨hw, acc, by rw [ha], hl⟩
  · exact .inr ⟨hw, by rw [ha]⟩
theorem tx_append (a b : List UInt8) : tx a ++ tx b = tx (a ++ b) := by
  apply ByteArray.ext
  simp [tx]
theorem tx_take (l : List UInt8) (n : Nat) : (tx l).extract 0 n = tx (l.take n) := by
  apply ByteArray.ext
  simp [tx]
/-- A comment and an ignored line. -/
def cmt : List UInt8 := [35, 32, 97, 32, 99, 111, 109, 109, 101, 110, 116]
theorem St.cmt {b : List UInt8} {line want k : Nat} (h : St b line want k) : St (b ++ (R.cmt ++ [10, 10])) (line + 2) want k := by
  have h1 := h.skip R.cmt rfl (by decide)
  have h2 := h1.skip [] rfl (by simp)
  have e : b ++ (R.cmt ++ [10]) ++ ([] ++ [10]) = b ++ (R.cmt ++ [10, 10]) := by simp
  rw [e] at h2
  exact h2
/-- One clause that is valid. -/
theorem j3_3 (bad : Int) (S : List S40) (cs : List Bool) (b : List UInt8) (line want k i : Nat) (c : S40) (cm : Bool) (hv : vld c = true) (hi : i < 30) (hs : St b line want k) (hk : k ≤ i) (hb : b.length ≤ i * 250) (hl : line ≤ i * 3) (hw : 0 < want → bad < k)
    (next : ∀ (b' : List UInt8) (line' want' : Nat), St b' line' want' (k + 1) → b'.length ≤ (i + 1) * 250 → line' ≤ (i + 1) * 3 → (0 < want' → bad < (k + 1 : Nat)) →
      ∃ K, onairlaw06_RightsFirstError.l0 K S cs bad true (tx b') (line' : Int) (want' : Int) ((k + 1 : Nat) : Int) ((i + 1 : Nat) : Int) = some true) :
    ∃ K, onairlaw06_RightsFirstError.j3 K S cs bad true (tx b) (line : Int) (want : Int) (k : Int) (i : Int) (tx (lineL c ++ [10])) cm = some true := by
  have hll := lineL_len c hv
  have hcm : (⟨#[35, 32, 97, 32, 99, 111, 109, 109, 101, 110, 116, 10, 10]⟩ : ByteArray) = tx (cmt ++ [10, 10]) := rfl
  have hsp : (⟨#[32, 10]⟩ : ByteArray) = tx ([32] ++ [10]) := rfl
  have hsz : ((tx (lineL c ++ [10])).size : Int) - 1 = ((lineL c).length : Int) := by rw [tx_size, List.length_append]; simp
  have HWZ : Aside0 (wrap64 (((tx (lineL c ++ [10])).size : Int) - 1) = ((lineL c).length : Int)) := ⟨by rw [hsz]; unfold wrap64; omega⟩
  have hex : (tx (lineL c ++ [10])).extract 0 ((lineL c).length : Int).toNat = tx (lineL c) := by
    rw [tx_take, Int.toNat_natCast, List.take_left]
  have W1 : Aside0 (wrap64 ((k : Int) + 1) = ((k + 1 : Nat) : Int)) := ⟨by unfold wrap64; omega⟩
  have W2 : Aside0 (wrap64 ((i : Int) + 1) = ((i + 1 : Nat) : Int)) := ⟨by unfold wrap64; omega⟩
  have W3 : Aside0 (wrap64 ((line : Int) + 1) = ((line + 1 : Nat) : Int)) := ⟨by unfold wrap64; omega⟩
  have W4 : Aside0 (wrap64 (wrap64 ((line : Int) + 2) + 1) = ((line + 2 + 1 : Nat) : Int)) := ⟨by unfold wrap64; omega⟩
  have hzz : ((lineL c).length : Int) ≤ ((tx (lineL c ++ [10])).size : Int) := by rw [tx_size, List.length_append]; simp; omega
  cases cm with
  | true =>
    by_cases hbad : (k : Int) = bad
    · have hw0 : want = 0 := by
        rcases Nat.eq_zero_or_pos want with h | h
        · exact h
        · have := hw h; omega
      subst hw0
      obtain ⟨K, hK⟩ := next (b ++ (cmt ++ [10, 10]) ++ ((lineL c ++ [32]) ++ [10])) (line + 2 + 1) (line + 2 + 1) (hs.cmt.bad c hv) (by simp [cmt]; omega) (by omega) (fun _ => by omega)
      refine ⟨K + 1, ?_⟩
      unfold onairlaw06_RightsFirstError.j3
      rw [if_pos rfl, if_pos (by rw [tx_size]; omega), if_pos hbad, HWZ.out, if_pos (by omega), if_pos hzz, hex, if_pos (by rw [tx_size]; omega), hcm, hsp, tx_append, tx_append, tx_append, if_pos (by rw [tx_size, tx_size]; simp [cmt]; omega), W1.out, W2.out, W4.out]
      rw [show lineL c ++ ([32] ++ [10]) = (lineL c ++ [32]) ++ [10] by simp]
      exact hK
    · obtain ⟨K, hK⟩ := next (b ++ (cmt ++ [10, 10]) ++ (lineL c ++ [10])) (line + 2 + 1) want (hs.cmt.good c hv (by omega)) (by simp [cmt]; omega) (by omega) (fun h => by have := hw h; omega)
      refine ⟨K + 1, ?_⟩
      unfold onairlaw06_RightsFirstError.j3
      rw [if_pos rfl, if_pos (by rw [tx_size]; omega), if_neg hbad, hcm, tx_append, tx_append, if_pos (by rw [tx_size, tx_size]; simp [cmt]; omega), W1.out, W2.out, W4.out]
      exact hK
  | false =>
    by_cases hbad : (k : Int) = bad
    · have hw0 : want = 0 := by
        rcases Nat.eq_zero_or_pos want with h | h
        · exact h
        · have := hw h; omega
      subst hw0
      obtain ⟨K, hK⟩ := next (b ++ ((lineL c ++ [32]) ++ [10])) (line + 1) (line + 1) (hs.bad c hv) (by simp; omega) (by omega) (fun _ => by omega)
      refine ⟨K + 1, ?_⟩
      unfold onairlaw06_RightsFirstError.j3
      rw [if_neg (by decide), if_pos hbad, HWZ.out, if_pos (by omega), if_pos hzz, hex, if_pos (by rw [tx_size]; omega), hsp, tx_append, tx_append, if_pos (by rw [tx_size, tx_size]; simp; omega), W1.out, W2.out, W3.out]
      rw [show lineL c ++ ([32] ++ [10]) = (lineL c ++ [32]) ++ [10] by simp]
      exact hK
    · obtain ⟨K, hK⟩ := next (b ++ (lineL c ++ [10])) (line + 1) want (hs.good c hv (by omega)) (by simp; omega) (by omega) (fun h => by have := hw h; omega)
      refine ⟨K + 1, ?_⟩
      unfold onairlaw06_RightsFirstError.j3
      rw [if_neg (by decide), if_neg hbad, tx_append, if_pos (by rw [tx_size, tx_size]; simp; omega), W1.out, W2.out, W3.out]
      exact hK
/-- The end: the text is parsed. -/
theorem end3 (bad : Int) (S : List S40) (cs : List Bool) (b : List UInt8) (line want k : Nat) (i : Int) (hs : St b line want k) (hb : b.length ≤ 30 * 250) (K : Nat) :
    onairlaw06_RightsFirstError.j1 (K + 1) S cs bad true (tx b) (line : Int) (want : Int) (k : Int) i false = some true := by
  unfold onairlaw06_RightsFirstError.j1
  rw [if_neg (by decide)]
  unfold rights_Parse.f
  rw [Option.bind_some]
  rcases hs.parse (by omega) with ⟨hw, acc, ha, hl⟩ | ⟨hw, ha⟩
  · rw [ha, if_pos (by omega), if_pos rfl]
    simp [hl]
  · rw [ha, if_neg (by omega), if_pos rfl]
    simp
theorem loop3 (bad : Int) (S : List S40) (cs : List Bool) : ∀ (m i : Nat) (b : List UInt8) (line want k : Nat), i + m = 30 → i ≤ S.length → St b line want k → k ≤ i → b.length ≤ i * 250 → line ≤ i * 3 → (0 < want → bad < k) →
    ∃ K, onairlaw06_RightsFirstError.l0 K S cs bad true (tx b) (line : Int) (want : Int) (k : Int) (i : Int) = some true
  | 0, i, b, line, want, k, him, hiS, hs, hk, hb, hl, hw => by
    have hd : decide ((i : Int) < 30) = false := decide_eq_false (by omega)
    refine ⟨2, ?_⟩
    unfold onairlaw06_RightsFirstError.l0
    rw [hd]
    have hb2 : b.length ≤ 30 * 250 := Nat.le_trans hb (Nat.mul_le_mul_right 250 (by omega))
    have := end3 bad S cs b line want k (i : Int) hs hb2 0
    split <;> exact this
  | m + 1, i, b, line, want, k, him, hiS, hs, hk, hb, hl, hw => by
    by_cases hi : i < S.length
    · have hd : decide ((i : Int) < 30) = true := decide_eq_true (by omega)
      have W2 : Aside0 (wrap64 ((i : Int) + 1) = ((i + 1 : Nat) : Int)) := ⟨by unfold wrap64; omega⟩
      have hone : (S.take (((i + 1 : Nat) : Int)).toNat).drop ((i : Int)).toNat = [S[i]] := by
        rw [Int.toNat_natCast, Int.toNat_natCast, List.take_add_one, List.drop_append, List.drop_of_length_le (by rw [List.length_take]; omega)]
        simp [hi, Nat.min_eq_left (Nat.le_of_lt hi)]
      have hP : rights_Print.f [S[i]] = some (if vld S[i] then (tx (lineL S[i] ++ [10]), 0) else (tx [], 60)) := by
        unfold rights_Print.f printT
        rw [if_pos (by simp)]
        unfold printGo
        cases vld S[i] <;> simp [printGo]
      by_cases hv : vld S[i] = true
      · rw [if_pos hv] at hP
        obtain ⟨K, hK⟩ := j3_3 bad S cs b line want k i S[i] (if (i : Int) < (cs.length : Int) then rdOf false cs (i : Int) else false) hv (by omega) hs hk hb hl hw (fun b' line' want' a1 a2 a3 a4 => loop3 bad S cs m (i + 1) b' line' want' (k + 1) (by omega) hi a1 (by omega) a2 a3 a4)
        have hj2 : onairlaw06_RightsFirstError.j2 (K + 1) S cs bad true (tx b) (line : Int) (want : Int) (k : Int) (i : Int) (tx (lineL S[i] ++ [10])) false = some true := by
          unfold onairlaw06_RightsFirstError.j2
          rw [if_neg (by decide)]
          by_cases hc : (i : Int) < (cs.length : Int)
          · rw [if_pos hc] at hK ⊢
            rw [if_pos (Int.natCast_nonneg i)]
            exact hK
          · rw [if_neg hc] at hK ⊢
            exact hK
        have hnil : ((tx (lineL S[i] ++ [10])).toList == ([] : List UInt8)) = false := by rw [tx_toList]; simp
        have hj1 : ∀ Q, onairlaw06_RightsFirstError.l0 (Q + 2) S cs bad true (tx b) (line : Int) (want : Int) (k : Int) (i : Int) = onairlaw06_RightsFirstError.j2 Q S cs bad true (tx b) (line : Int) (want : Int) (k : Int) (i : Int) (tx (lineL S[i] ++ [10])) false := fun Q => by
          unfold onairlaw06_RightsFirstError.l0
          rw [if_pos (by omega), hd]
          unfold onairlaw06_RightsFirstError.j1
          rw [if_pos rfl, if_pos (by omega), W2.out, if_pos (by omega), if_pos (by omega), hone, hP, Option.bind_some, if_pos rfl, hnil]
        refine ⟨K + 1 + 2, ?_⟩
        rw [hj1]
        exact hj2
      · rw [if_neg hv] at hP
        obtain ⟨K, hK⟩ := loop3 bad S cs m (i + 1) b line want k (by omega) hi hs (by omega) (Nat.le_trans hb (Nat.mul_le_mul_right 250 (Nat.le_succ i))) (Nat.le_trans hl (Nat.mul_le_mul_right 3 (Nat.le_succ i))) hw
        refine ⟨K + 1 + 2, ?_⟩
        unfold onairlaw06_RightsFirstError.l0
        rw [if_pos (by omega), hd]
        unfold onairlaw06_RightsFirstError.j1
        rw [if_pos rfl, if_pos (by omega), W2.out, if_pos (by omega), if_pos (by omega), hone, hP, Option.bind_some, if_neg (by decide)]
        unfold onairlaw06_RightsFirstError.j2
        rw [if_pos rfl, W2.out]
        exact hK
    · refine ⟨2, ?_⟩
      unfold onairlaw06_RightsFirstError.l0
      rw [if_neg (by omega)]
      exact end3 bad S cs b line want k (i : Int) hs (Nat.le_trans hb (Nat.mul_le_mul_right 250 (by omega))) 0
/-- The law's value. -/
theorem firstError_true (l : List S40) (cs : List Bool) (a : Int) (ha : fits a) : ∃ k, onairlaw06_RightsFirstError.f k l cs a = some true := by
  obtain ⟨r, hp, h0, h1⟩ := pick_f a 30 ha (by decide) (by decide)
  obtain ⟨K, hK⟩ := loop3 r l cs 30 0 [] 0 0 0 rfl (Nat.zero_le _) St.start (Nat.le_refl _) (Nat.zero_le _) (Nat.le_refl _) (fun h => absurd h (Nat.lt_irrefl _))
  refine ⟨K, ?_⟩
  unfold onairlaw06_RightsFirstError.f
  rw [show onairlaw06_sane.f = some true from rfl, Option.bind_some, hp, Option.bind_some]
  exact hK
end Go.Proofs.YtpefhdjkpdjdpaaGreatDoor.R
namespace Go.Proofs.YtpefhdjkpdjdpaaGreatDoor.R
open Go Go.ChangeShapes Go.WideShapes Go.ChangeAt Go.Deep Go.RowKit Go.Proofs.YtpefhdjkpdjdpaaGreatDoorW.PrintWords Go.Proofs.YtpefhdjkpdjdpaaGreatDoorW.PrintLast Go.Proofs.YtpefhdjkpdjdpaaGreatDoorW.PrintMore
set_option maxRecDepth 100000 in
/-- A slice of bools that came in. -/
theorem Cb_of_arg {H : Type} {enc : TypeId × Value → H} {W : World} {base : Nat} {v : Value} {d : DataW H} {p : List MemPlace} (hval : Value.okWide Tryz.prog W .any base 23 v) (h : DataW.Trod enc Tryz.prog W 0 (fun _ => true) true 23 v d p) :
    ∃ (A : Option Addr) (c : Nat) (l : List Bool), v = .slice A l.length c ∧ l.length ≤ c ∧ Kd.C Kd.bool W A l.length l := by
  obtain ⟨a, len, cap, rfl⟩ := okWide_slice Tryz.underlying23 hval
  obtain ⟨fuel, hf⟩ := h
  rcases open_bools Tryz.underlying23 Tryz.underlying4 (by kernel_rfl) hf with ⟨hcs, _⟩ | ⟨a', len', cap', B, hcs, _, hlc, hcm, _, hi⟩
  · simp [Value.cells] at hcs
    obtain ⟨rfl, rfl, rfl⟩ := hcs
    exact ⟨none, 0, [], rfl, Nat.le_refl _, Kd.C_nil _ _⟩
  · simp [Value.cells] at hcs
    obtain ⟨rfl, rfl, rfl⟩ := hcs
    have hmx : maxLen ≤ 9223372036854775807 := by decide
    obtain ⟨l, hl⟩ : ∃ l : List Bool, l = (List.range len).map B := ⟨_, rfl⟩
    have hlen : l.length = len := by rw [hl]; simp
    subst hlen
    refine ⟨some a', cap, l, rfl, hlc, Kd.C_of_reads (d := false) ⟨rfl, by omega, fun _ => ⟨a', rfl, fun j hj => ?_⟩⟩⟩
    rw [hi j (by omega)]
    have e : l.getD j false = B j := by
      have h1 : ((List.range l.length).map B)[j]? = some (B j) := by rw [List.getElem?_map, List.getElem?_range hj]; rfl
      rw [← hl] at h1
      simp [List.getD, h1]
    rw [e]
def args3 : Array Value := #[.slice none 0 0, .slice none 0 0, .int .i64 0]
theorem laid_met3 (os : Os) : laidMetH Tryz.prog laidL ((laidWorld os).forCall (fun _ _ => 0) ⟨#[], args3, []⟩).memory := by
  rw [MakeChecks.laidMetH_plain _ _ _ (by kernel_rfl)]
  exact laidMet_of_run' 8 (by kernel_rfl) (by kernel_rfl)
theorem reads3 (os : Os) {H : Type} (enc : TypeId × Value → H) : ∃ places, DataW.whole enc Tryz.prog ((laidWorld os).forCall (fun _ _ => 0) ⟨#[], args3, []⟩).memory Tryz.f3.params.toList Rows.rightsFirstErrorSpec.vars false args3.toList 8 = some ([.nil, .nil, .lit (.int .i64 0)], [], places) :=
  ⟨[], by kernel_rfl⟩
set_option maxRecDepth 100000 in
theorem lifted3 (os : Os) (started : os.Started) (H : Type) (enc : TypeId × Value → H) (F : Stop.Interp) :
    ReturnsInHanded {} Tryz.checked os 3 .any ((OpenSpec.ofChange Rows.rightsFirstErrorSpec).preRow enc Tryz.prog Tryz.f3 Rows.rightsFirstErrorRow.domain false Rows.rightsFirstErrorRow.laid) (((OpenSpec.ofChange Rows.rightsFirstErrorSpec).at F).post enc Tryz.prog Tryz.f3 false true false false) := by
  obtain ⟨places, hx⟩ := reads3 os enc
  refine returnsInHanded_of_row (C := Tryz.checked) (s := OpenSpec.ofChange Rows.rightsFirstErrorSpec) own_ started (by kernel_rfl) Tryz.func3
    (witness_row_atRef (enc := enc) (C := Tryz.checked) false (laidWorld os) args3 rfl (by kernel_rfl) (by kernel_rfl) (by kernel_rfl)
      (OpenSpec.preRow_of_cond 8 hx (by kernel_rfl) (fun k hk => by cases hk) (by kernel_rfl) (laid_met3 os))) ?_
  intro W base args ds gs before hval0 hW _ _ _ hL hsh _
  have hval : ∀ (j : Nat) t v, Tryz.f3.params[j]? = some t → args[j]? = some v → Value.okWide Tryz.prog W .any base t v := hval0
  have hW' := hW
  obtain ⟨p, q, hA0, hV, rfl, _, _⟩ := hW
  have hA : DataW.TrodAll enc Tryz.prog W 0 (fun _ => true) true Tryz.f3.params.toList args.toList ds p := hA0
  rw [Tryz.params3] at hA hval
  obtain ⟨v0, vs0, d0, ds0, p0, q0, hargs, rfl, rfl, h0, r0⟩ := trodAll_cons hA
  obtain ⟨v1, vs1, d1, ds1, p1, q1, rfl, rfl, rfl, h1, r1⟩ := trodAll_cons r0
  obtain ⟨v2, vs2, d2, ds2, p2, q2, rfl, rfl, rfl, h2, r2⟩ := trodAll_cons r1
  obtain ⟨rfl, rfl, rfl⟩ := trodAll_nil r2
  obtain rfl : args = #[v0, v1, v2] := by cases args; simp_all
  obtain ⟨rfl, rfl⟩ := trodVars_none hV
  obtain ⟨a2, rfl, rfl, rfl, w2⟩ := open_int Tryz.underlying3 (hval 2 3 v2 rfl rfl) h2
  obtain ⟨A0, c0, l0, rfl, hlc, hC⟩ := C40_of_arg (hval 0 22 v0 rfl rfl) h0
  obtain ⟨A1, c1, l1, rfl, hlc1, hC1⟩ := Cb_of_arg (hval 1 23 v1 rfl rfl) h1
  clear hA0 hval0
  simp only [List.append_nil] at hW'
  have hlt0 : ∀ x ∈ p0, x.block < W.heap.size := fun x hx => by simpa using hW'.lt x (by simp [hx])
  have hlt1 : ∀ x ∈ p1, x.block < W.heap.size := fun x hx => by simpa using hW'.lt x (by simp [hx])
  have hT := tabW_of hL hsh
  have hf : fits a2 := by
    have h := w2
    simp only [Lit.wf] at h
    have h2 : (IntKind.i64.min ≤ a2 ∧ a2 ≤ IntKind.i64.max) := by simpa using h
    exact h2
  obtain ⟨k, hk⟩ := firstError_true l0 l1 a2 hf
  refine (onairlaw06_RightsFirstError.calls k A0 c0 l0 A1 c1 l1 a2 true W hC hlc hC1 hlc1 hk hT).mono ?_
  rintro e W' ⟨rfl, hb⟩
  refine ⟨_, rfl, _, _, _, [], p0 ++ p1, [], hW', trodAll_mk1 (shut_bool Tryz.underlying4 _), ?_, rfl, hb.frame _, fun h => by cases h⟩
  have ht := Below.trod laidOut_ (by kernel_rfl) (of_decide_eq_true (by kernel_rfl)) h0 hb hlt0
  have ht1 := Below.trod laidOut_ (by kernel_rfl) (of_decide_eq_true (by kernel_rfl)) h1 hb hlt1
  have := trodAll_cons_mk ht (trodAll_cons_mk ht1 (trodAll_cons_mk (shut_int Tryz.underlying3 w2) trodAll_mk0))
  simp only [List.append_nil] at this
  exact this
end Go.Proofs.YtpefhdjkpdjdpaaGreatDoor.R
