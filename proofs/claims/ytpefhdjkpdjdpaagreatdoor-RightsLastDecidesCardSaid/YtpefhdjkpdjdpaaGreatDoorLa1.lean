/- Parts of the proof, merged out of this seat's texts by a program of this claim. -/
import Derived.Test.YtpefhdjkpdjdpaaGreatDoorLm7
namespace Go.Proofs.YtpefhdjkpdjdpaaGreatDoor.R
open Go.RowKit Go.Proofs.YtpefhdjkpdjdpaaGreatDoorW.PrintWords Go.Proofs.YtpefhdjkpdjdpaaGreatDoorW.PrintLast Go.Proofs.YtpefhdjkpdjdpaaGreatDoorW.PrintMore
attribute [local go_sem] max2_int min2_int max_two min_two max_three min_three max_four min_four   -- for this text's walks alone
set_option linter.unusedVariables false
set_option linter.unusedSimpArgs false
end Go.Proofs.YtpefhdjkpdjdpaaGreatDoor.R
namespace Go.Proofs.YtpefhdjkpdjdpaaGreatDoor.R
open Go.RowKit Go.Proofs.YtpefhdjkpdjdpaaGreatDoorW.PrintWords Go.Proofs.YtpefhdjkpdjdpaaGreatDoorW.PrintLast Go.Proofs.YtpefhdjkpdjdpaaGreatDoorW.PrintMore
attribute [local go_sem] max2_int min2_int max_two min_two max_three min_three max_four min_four   -- for this text's walks alone
set_option linter.unusedVariables false
set_option linter.unusedSimpArgs false
mutual
def onairlaw06_RightsLastDecides.l0 : Nat → List (S40) → Int → Int → Int → Bool → Bool → List (S40) → Int → Option (Bool)
  | 0, _, _, _, _, _, _, _, _ => none
  | k + 1, x0, x1, x2, x3, x9, x10, x11, x12 => if x12 < (x0.length : Int) then (if 0 ≤ x12 then (if ((rd_T40 x0 x12).f0) = 1 then ((rights_Valid.f k ((rd_T40 x0 x12).f0) ((rd_T40 x0 x12).f1) ((rd_T40 x0 x12).f2) ((rd_T40 x0 x12).f3) ((rd_T40 x0 x12).f4) ((rd_T40 x0 x12).f5) ((rd_T40 x0 x12).f6) ((rd_T40 x0 x12).f7)).bind fun t171 => (if t171 = true then (if ((rd_T40 x0 x12).f1) = x1 then (if 0 ≤ x2 then (onairlaw06_RightsLastDecides.j1 k x0 x1 x2 x3 x9 x10 x11 x12 ((Int.tmod (shr .i64 ((rd_T40 x0 x12).f4) x2) 2) == 1) ((rd_T40 x0 x12).f0) ((rd_T40 x0 x12).f1) ((rd_T40 x0 x12).f2) ((rd_T40 x0 x12).f3) ((rd_T40 x0 x12).f4) ((rd_T40 x0 x12).f5) ((rd_T40 x0 x12).f6) ((rd_T40 x0 x12).f7)) else (none)) else (onairlaw06_RightsLastDecides.j1 k x0 x1 x2 x3 x9 x10 x11 x12 false ((rd_T40 x0 x12).f0) ((rd_T40 x0 x12).f1) ((rd_T40 x0 x12).f2) ((rd_T40 x0 x12).f3) ((rd_T40 x0 x12).f4) ((rd_T40 x0 x12).f5) ((rd_T40 x0 x12).f6) ((rd_T40 x0 x12).f7))) else (onairlaw06_RightsLastDecides.j1 k x0 x1 x2 x3 x9 x10 x11 x12 false ((rd_T40 x0 x12).f0) ((rd_T40 x0 x12).f1) ((rd_T40 x0 x12).f2) ((rd_T40 x0 x12).f3) ((rd_T40 x0 x12).f4) ((rd_T40 x0 x12).f5) ((rd_T40 x0 x12).f6) ((rd_T40 x0 x12).f7)))) else (if ((rd_T40 x0 x12).f0) = 2 then ((rights_Valid.f k ((rd_T40 x0 x12).f0) ((rd_T40 x0 x12).f1) ((rd_T40 x0 x12).f2) ((rd_T40 x0 x12).f3) ((rd_T40 x0 x12).f4) ((rd_T40 x0 x12).f5) ((rd_T40 x0 x12).f6) ((rd_T40 x0 x12).f7)).bind fun t172 => (if t172 = true then (if ((rd_T40 x0 x12).f1) = x1 then (if 0 ≤ x2 then (onairlaw06_RightsLastDecides.j1 k x0 x1 x2 x3 x9 x10 x11 x12 ((Int.tmod (shr .i64 ((rd_T40 x0 x12).f4) x2) 2) == 1) ((rd_T40 x0 x12).f0) ((rd_T40 x0 x12).f1) ((rd_T40 x0 x12).f2) ((rd_T40 x0 x12).f3) ((rd_T40 x0 x12).f4) ((rd_T40 x0 x12).f5) ((rd_T40 x0 x12).f6) ((rd_T40 x0 x12).f7)) else (none)) else (onairlaw06_RightsLastDecides.j1 k x0 x1 x2 x3 x9 x10 x11 x12 false ((rd_T40 x0 x12).f0) ((rd_T40 x0 x12).f1) ((rd_T40 x0 x12).f2) ((rd_T40 x0 x12).f3) ((rd_T40 x0 x12).f4) ((rd_T40 x0 x12).f5) ((rd_T40 x0 x12).f6) ((rd_T40 x0 x12).f7))) else (onairlaw06_RightsLastDecides.j1 k x0 x1 x2 x3 x9 x10 x11 x12 false ((rd_T40 x0 x12).f0) ((rd_T40 x0 x12).f1) ((rd_T40 x0 x12).f2) ((rd_T40 x0 x12).f3) ((rd_T40 x0 x12).f4) ((rd_T40 x0 x12).f5) ((rd_T40 x0 x12).f6) ((rd_T40 x0 x12).f7)))) else (onairlaw06_RightsLastDecides.j1 k x0 x1 x2 x3 x9 x10 x11 x12 false ((rd_T40 x0 x12).f0) ((rd_T40 x0 x12).f1) ((rd_T40 x0 x12).f2) ((rd_T40 x0 x12).f3) ((rd_T40 x0 x12).f4) ((rd_T40 x0 x12).f5) ((rd_T40 x0 x12).f6) ((rd_T40 x0 x12).f7)))) else (none)) else ((rights_Spans.f x0 x1 x2).bind fun t176 => (if x9 = true then ((span_Has.f t176 x3).bind fun t179 => (if (t179 == x10) = true then ((rights_Spans.f x11 x1 x2).bind fun t180 => ((onairref06_SameSpans.f k t176 t180).bind fun t183 => (some t183))) else (some false))) else (some false)))
def onairlaw06_RightsLastDecides.j1 : Nat → List (S40) → Int → Int → Int → Bool → Bool → List (S40) → Int → Bool → Int → Int → Int → Int → Int → Int → Int → Int → Option (Bool)
  | 0, _, _, _, _, _, _, _, _, _, _, _, _, _, _, _, _, _ => none
  | k + 1, x0, x1, x2, x3, x9, x10, x11, x12, x55, x171000, x171001, x171002, x171003, x171004, x171005, x171006, x171007 => if x55 = true then (if x11.length < 2199023255552 then ((some (x11 ++ [(⟨x171000, x171001, x171002, x171003, x171004, x171005, x171006, x171007⟩ : S40)] : List (S40))).bind fun y173 => (if x171002 ≤ x3 then (if x3 < x171003 then (onairlaw06_RightsLastDecides.l0 k x0 x1 x2 x3 x9 (x171000 == 1) y173 (wrap64 (x12 + 1))) else (onairlaw06_RightsLastDecides.l0 k x0 x1 x2 x3 x9 x10 y173 (wrap64 (x12 + 1)))) else (onairlaw06_RightsLastDecides.l0 k x0 x1 x2 x3 x9 x10 y173 (wrap64 (x12 + 1))))) else (none)) else (onairlaw06_RightsLastDecides.l0 k x0 x1 x2 x3 x9 x10 x11 (wrap64 (x12 + 1)))
end
def onairlaw06_RightsLastDecides.f (k : Nat) (l0 : List (S40)) (a1 : Int) (a2 : Int) (a3 : Int) : Option (Bool) := (onairlaw06_sane.f).bind fun t164 => ((onairlaw06_cut.f l0 60).bind fun t165 => ((onairlaw06_pick.f a2 8).bind fun t168 => (onairlaw06_RightsLastDecides.l0 k t165 a1 t168 a3 t164 false ([] : List (S40)) 0)))
theorem onairlaw06_RightsLastDecides.mono_l : ∀ k, (∀ y0 y1 y2 y3 y4 y5 y6 y7, LeO (onairlaw06_RightsLastDecides.l0 k y0 y1 y2 y3 y4 y5 y6 y7) (onairlaw06_RightsLastDecides.l0 (k + 1) y0 y1 y2 y3 y4 y5 y6 y7)) ∧ (∀ y0 y1 y2 y3 y4 y5 y6 y7 y8 y9 y10 y11 y12 y13 y14 y15 y16, LeO (onairlaw06_RightsLastDecides.j1 k y0 y1 y2 y3 y4 y5 y6 y7 y8 y9 y10 y11 y12 y13 y14 y15 y16) (onairlaw06_RightsLastDecides.j1 (k + 1) y0 y1 y2 y3 y4 y5 y6 y7 y8 y9 y10 y11 y12 y13 y14 y15 y16))
  | 0 => ⟨fun _ _ _ _ _ _ _ _ r h => by simp [onairlaw06_RightsLastDecides.l0] at h, fun _ _ _ _ _ _ _ _ _ _ _ _ _ _ _ _ _ r h => by simp [onairlaw06_RightsLastDecides.j1] at h⟩
  | k + 1 => by
    obtain ⟨ih0, ih1⟩ := onairlaw06_RightsLastDecides.mono_l k
    refine ⟨?_, ?_⟩
    · intro y0 y1 y2 y3 y4 y5 y6 y7
      unfold onairlaw06_RightsLastDecides.l0
      repeat' first
      | (with_reducible exact ih0 _ _ _ _ _ _ _ _)
      | (with_reducible exact ih1 _ _ _ _ _ _ _ _ _ _ _ _ _ _ _ _ _)
      | (with_reducible exact onairref06_SameSpans.mono _ _ _)
      | (with_reducible exact rights_Valid.mono _ _ _ _ _ _ _ _ _)
      | (with_reducible exact LeO.refl _)
      | (with_reducible exact LeO.none _)
      | (with_reducible refine LeO.ite ?_ ?_)
      | (with_reducible refine LeO.bind ?_ (fun _ => ?_))
      | exact ih0 _ _ _ _ _ _ _ _
      | exact ih1 _ _ _ _ _ _ _ _ _ _ _ _ _ _ _ _ _
      | exact onairref06_SameSpans.mono _ _ _
      | exact rights_Valid.mono _ _ _ _ _ _ _ _ _
      | exact LeO.none _
      | refine LeO.ite ?_ ?_
      | refine LeO.bind ?_ (fun _ => ?_)
    · intro y0 y1 y2 y3 y4 y5 y6 y7 y8 y9 y10 y11 y12 y13 y14 y15 y16
      unfold onairlaw06_RightsLastDecides.j1
      repeat' first
      | (with_reducible exact ih0 _ _ _ _ _ _ _ _)
      | (with_reducible exact ih1 _ _ _ _ _ _ _ _ _ _ _ _ _ _ _ _ _)
      | (with_reducible exact onairref06_SameSpans.mono _ _ _)
      | (with_reducible exact rights_Valid.mono _ _ _ _ _ _ _ _ _)
      | (with_reducible exact LeO.refl _)
      | (with_reducible exact LeO.none _)
      | (with_reducible refine LeO.ite ?_ ?_)
      | (with_reducible refine LeO.bind ?_ (fun _ => ?_))
      | exact ih0 _ _ _ _ _ _ _ _
      | exact ih1 _ _ _ _ _ _ _ _ _ _ _ _ _ _ _ _ _
      | exact onairref06_SameSpans.mono _ _ _
      | exact rights_Valid.mono _ _ _ _ _ _ _ _ _
      | exact LeO.none _
      | refine LeO.ite ?_ ?_
      | refine LeO.bind ?_ (fun _ => ?_)
theorem onairlaw06_RightsLastDecides.mono : ∀ a0 a1 a2 a3 k, LeO (onairlaw06_RightsLastDecides.f k a0 a1 a2 a3) (onairlaw06_RightsLastDecides.f (k + 1) a0 a1 a2 a3) := by
  intro a0 a1 a2 a3 k
  obtain ⟨ih0, ih1⟩ := onairlaw06_RightsLastDecides.mono_l k
  unfold onairlaw06_RightsLastDecides.f
  repeat' first
      | (with_reducible exact ih0 _ _ _ _ _ _ _ _)
      | (with_reducible exact ih1 _ _ _ _ _ _ _ _ _ _ _ _ _ _ _ _ _)
      | (with_reducible exact onairref06_SameSpans.mono _ _ _)
      | (with_reducible exact rights_Valid.mono _ _ _ _ _ _ _ _ _)
      | (with_reducible exact LeO.refl _)
      | (with_reducible exact LeO.none _)
      | (with_reducible refine LeO.ite ?_ ?_)
      | (with_reducible refine LeO.bind ?_ (fun _ => ?_))
      | exact ih0 _ _ _ _ _ _ _ _
      | exact ih1 _ _ _ _ _ _ _ _ _ _ _ _ _ _ _ _ _
      | exact onairref06_SameSpans.mono _ _ _
      | exact rights_Valid.mono _ _ _ _ _ _ _ _ _
      | exact LeO.none _
      | refine LeO.ite ?_ ?_
      | refine LeO.bind ?_ (fun _ => ?_)
set_option maxHeartbeats 8000000 in
set_option maxRecDepth 100000 in
theorem onairlaw06_RightsLastDecides.calls (k : Nat) (A0 : Option Addr) (c0 : Nat) (l0 : List (S40)) (a1 : Int) (a2 : Int) (a3 : Int) (r : Bool) (w : World) (hr0 : Kd.C k40 w A0 l0.length l0) (hc0 : l0.length ≤ c0) (h : onairlaw06_RightsLastDecides.f k l0 a1 a2 a3 = some r) (hT : TabW w) :
    Calls Tryz.prog 5 #[.slice A0 l0.length c0, .int .i64 a1, .int .i64 a2, .int .i64 a3] w fun e w' => e = .returned (.bool r) ∧ Below w.heap.size w w' := by
  have HT := Aside0.mk hT
  clear hT
  have hu40 := Tryz.underlying40
  have HR0 := Aside0.mk hr0
  have HC0 := Aside0.mk hc0
  clear hr0 hc0
  have HB := Aside0.mk (Below.refl w.heap.size w)
  have H : ((onairlaw06_sane.f).bind fun t164 => ((onairlaw06_cut.f l0 60).bind fun t165 => ((onairlaw06_pick.f a2 8).bind fun t168 => (onairlaw06_RightsLastDecides.l0 k t165 a1 t168 a3 t164 false ([] : List (S40)) 0)))) = some r := h
  clear h
  replace H := Option.bind_eq_some_iff.mp H
  obtain ⟨t164, A50, H⟩ := H
  replace H : ((onairlaw06_cut.f l0 60).bind fun t165 => ((onairlaw06_pick.f a2 8).bind fun t168 => (onairlaw06_RightsLastDecides.l0 k t165 a1 t168 a3 t164 false ([] : List (S40)) 0))) = some r := H
  have A5 := Aside0.mk A50
  clear A50
  replace H := Option.bind_eq_some_iff.mp H
  obtain ⟨t165, A60, H⟩ := H
  replace H : ((onairlaw06_pick.f a2 8).bind fun t168 => (onairlaw06_RightsLastDecides.l0 k t165 a1 t168 a3 t164 false ([] : List (S40)) 0)) = some r := H
  have A6 := Aside0.mk A60
  clear A60
  replace H := Option.bind_eq_some_iff.mp H
  obtain ⟨t168, A70, H⟩ := H
  replace H : (onairlaw06_RightsLastDecides.l0 k t165 a1 t168 a3 t164 false ([] : List (S40)) 0) = some r := H
  have A7 := Aside0.mk A70
  clear A70
  have H' := Aside0.mk H
  clear H
  go_enter Tryz.func5, Tryz.ntmps5
  go_wp2_with (first | ((with_reducible refine gate_callee (f := 8) rfl ?_); refine goesL_ (some 15) rfl rfl Tryz.func8 (by kernel_rfl) rfl #[] rfl (by (try simp only [List.map_toArray, List.map_cons, List.map_nil]); first | done | rfl | (simp only [List.length_drop, List.length_take]; rfl)) ?_; (with_reducible refine (onairlaw06_sane.calls  t164 _ A5.out (by first | exact HT.out | exact TabW.below HT.out (by repeat (first | (with_reducible first | exact HB.out | apply below_alloc | apply pw_below_drewN | apply below_drew1) | exact HB.out)))).mono ?_); rintro e w8 ⟨rfl, hb⟩; refine ⟨_, rfl, ?_⟩; have n0_ := Aside0.mk (below_step (by repeat (first | (with_reducible first | exact HB.out | apply below_alloc | apply pw_below_drewN | apply below_drew1) | exact HB.out)) hb); clear HB; have HB := n0_; clear n0_; (try clear hb); (try clear hb2); (try clear hk); (try clear hi)) | ((with_reducible refine gate_callee (f := 12) rfl ?_); refine goesL_ (some 17) rfl rfl Tryz.func12 (by kernel_rfl) rfl #[.slice A0 l0.length c0, .int .i64 60] rfl (by (try simp only [List.map_toArray, List.map_cons, List.map_nil]); first | done | rfl | (simp only [List.length_drop, List.length_take]; rfl)) ?_; (with_reducible refine (onairlaw06_cut.calls _ _ l0 60 t165 _ ?side1 ?side2 A6.out).mono ?_); (case side1 => repeat (first | exact (Kd.C_below HR0.out HB.out) | (with_reducible refine Kd.C_alloc ?_ _) | (with_reducible refine Kd.C_drewN ?_ _) | (with_reducible refine Kd.C_drew ?_))); (case side2 => exact HC0.out); rintro e w9 ⟨v166, rfl, ho0, hb⟩; refine ⟨_, rfl, ?_⟩; have n0_ := Aside0.mk (Kd.R_lower ho0 (below_size (by repeat (first | (with_reducible first | exact HB.out | apply below_alloc | apply pw_below_drewN | apply below_drew1) | exact HB.out)))); have n1_ := Aside0.mk (below_step (by repeat (first | (with_reducible first | exact HB.out | apply below_alloc | apply pw_below_drewN | apply below_drew1) | exact HB.out)) hb); clear HB; have HO167 := n0_; have HB := n1_; clear n0_ n1_; (try clear hb); (try clear hb2); (try clear hk); (try clear hi); (try clear ho0)) | ((with_reducible refine gate_callee (f := 9) rfl ?_); refine goesL_ (some 19) rfl rfl Tryz.func9 (by kernel_rfl) rfl #[.int .i64 a2, .int .i64 8] rfl (by (try simp only [List.map_toArray, List.map_cons, List.map_nil]); first | done | rfl | (simp only [List.length_drop, List.length_take]; rfl)) ?_; (with_reducible refine (onairlaw06_pick.calls a2 8 t168 _ A7.out).mono ?_); rintro e w' ⟨rfl, ⟨nd, rfl⟩⟩; refine ⟨_, rfl, ?_⟩))
  go_loopg [10, 11, 12] k (fun kq v10 v11 v12 w' => ∃ (x10_1 : Bool) (x11_1 : List (S40)) (x12_1 : Int), v10 = .bool x10_1 ∧ v12 = .int .i64 x12_1 ∧ Aside0 (onairlaw06_RightsLastDecides.l0 kq t165 a1 t168 a3 t164 x10_1 x11_1 x12_1 = some r) ∧ Aside0 (kq ≤ k) ∧ Aside0 (Kd.R k40 40 w' w.heap.size (fun k_ => some k_ ≠ (v11 : Value).ownBlock) v166 t165) ∧ Aside0 (Kd.R k40 40 w' w.heap.size (fun k_ => some k_ ≠ (v166 : Value).ownBlock) v11 x11_1) ∧ Aside0 (Below w.heap.size w w'))
  case atStart => exact ⟨(false), (([] : List (S40))), (0), (by first | rfl | (simp; done) | (simp [*]; done)), (by first | rfl | (simp; done) | (simp [*]; done)), H', ⟨Nat.le_refl _⟩, ⟨by (with_reducible repeat (first | apply Kd.R_alloc | apply Kd.R_drewN | apply Kd.R_drew)); exact Kd.R_mono HO167.out (fun _ hk => (by simp [Value.ownBlock]))⟩, ⟨by first | exact Kd.R_nil _ _ _ _ _ | exact Kd.N_nil _ _ _ _ _ | exact Kd.V_nil _ _ _ _ _ | exact Kd.Q_nil _ _ _ _ _ | exact Kd.S_nil _ _ _ _ _⟩, ⟨by repeat (first | (with_reducible first | exact HB.out | apply below_alloc | apply pw_below_drewN | apply below_drew1) | exact HB.out)⟩⟩
  case round =>
    clear H'
    try clear c1
    try clear p2
    try clear c5
    try clear c8
    try clear c9
    obtain ⟨x10_1, x11_1, x12_1, rfl, rfl, HA, HK1, HO_0, HO_11, HB⟩ := hrel
    cases gk with
    | zero => exact absurd HA.out (by simp [onairlaw06_RightsLastDecides.l0])
    | succ k1 =>
      have H := HA.out
      clear HA
      simp only [onairlaw06_RightsLastDecides.l0] at H
      by_cases c10 : x12_1 < (t165.length : Int)
      · rw [if_pos c10] at H
        have c10b0 : decide (x12_1 < (t165.length : Int)) = true := decide_eq_true c10
        clear c10
        by_cases c11 : 0 ≤ x12_1
        · rw [if_pos c11] at H
          have c11b0 : decide (0 ≤ x12_1) = true := decide_eq_true c11
          clear c11
          have HC12 := Aside0.mk H
          clear H
          obtain ⟨Ao13, co13, eo13⟩ := Kd.R_slice HO_0.out
          subst eo13
          have p169 : 0 ≤ (x12_1 : Int) := of_decide_eq_true (by first | (with_reducible assumption) | assumption)
          have q169 : x12_1 < (t165.length : Int) := of_decide_eq_true (by first | (with_reducible assumption) | assumption)
          obtain ⟨ad169, e169, hx169_0, hx169_1, hx169_2, hx169_3, hx169_4, hx169_5, hx169_6, hx169_7⟩ := at_T40 (Kd.R_reads' HO_0.out).2.2 x12_1 p169 q169
          cases e169
          replace p169 := eq_true p169
          replace q169 := eq_true q169
          go_upto_region 10 with (first | ((with_reducible refine gate_dst (N := 13) rfl ?_); refine box_event ?hg (N := 13) ?hd (cs := #[.int .i64 0, .int .i64 0, .int .i64 0, .int .i64 0, .int .i64 0, .int .i64 0, .int .i64 0, .int .i64 0]) (t := 40) ?hr ?_; (case hd => rfl); (case hg => rfl); (case hr => first | (go_simp; done) | (go_simp; rfl)); intro gb170 hg w14 hbox hb; have n0_ := Aside0.mk (Kd.R_below (Kd.R_elderB (by (with_reducible repeat (first | apply Kd.R_alloc | apply Kd.R_drewN | apply Kd.R_drew)); exact HO_0.out) gb170 (Nat.le_of_eq hg.symm)) hb); have n1_ := Aside0.mk (Kd.R_below (Kd.R_elderB (by (with_reducible repeat (first | apply Kd.R_alloc | apply Kd.R_drewN | apply Kd.R_drew)); exact HO_11.out) gb170 (Nat.le_of_eq hg.symm)) hb); have n2_ := Aside0.mk (below_step (by repeat (first | (with_reducible first | exact HB.out | apply below_alloc | apply pw_below_drewN | apply below_drew1) | exact HB.out)) hb); have n3_ := Aside0.mk (hbox); have n4_ := Aside0.mk ((by rw [hg]; exact (below_size (by repeat (first | (with_reducible first | exact HB.out | apply below_alloc | apply pw_below_drewN | apply below_drew1) | exact HB.out))) : w.heap.size ≤ gb170)); have n5_ := Aside0.mk ((by rw [hg]; exact (below_size (by repeat (first | (with_reducible first | exact HB.out | apply below_alloc | apply pw_below_drewN | apply below_drew1) | exact HB.out))) : w.heap.size ≤ gb170)); clear HO_0; clear HO_11; clear HB; have HO_0 := n0_; have HO_11 := n1_; have HB := n2_; have BK170 := n3_; have GW170 := n4_; have GE170 := n5_; clear n0_ n1_ n2_ n3_ n4_ n5_; clear hb hbox hg; have hcz15_0 : w14.cell? ⟨gb170, 0, none⟩ = some (.int .i64 0) := (blk_cell BK170.out 0).trans rfl; have hcz15_1 : w14.cell? ⟨gb170, 1, none⟩ = some (.int .i64 0) := (blk_cell BK170.out 1).trans rfl; have hcz15_2 : w14.cell? ⟨gb170, 2, none⟩ = some (.int .i64 0) := (blk_cell BK170.out 2).trans rfl; have hcz15_3 : w14.cell? ⟨gb170, 3, none⟩ = some (.int .i64 0) := (blk_cell BK170.out 3).trans rfl; have hcz15_4 : w14.cell? ⟨gb170, 4, none⟩ = some (.int .i64 0) := (blk_cell BK170.out 4).trans rfl; have hcz15_5 : w14.cell? ⟨gb170, 5, none⟩ = some (.int .i64 0) := (blk_cell BK170.out 5).trans rfl; have hcz15_6 : w14.cell? ⟨gb170, 6, none⟩ = some (.int .i64 0) := (blk_cell BK170.out 6).trans rfl; have hcz15_7 : w14.cell? ⟨gb170, 7, none⟩ = some (.int .i64 0) := (blk_cell BK170.out 7).trans rfl; have hfz15_0 := blk_frozen BK170.out 0; have hfz15_1 := blk_frozen BK170.out 1; have hfz15_2 := blk_frozen BK170.out 2; have hfz15_3 := blk_frozen BK170.out 3; have hfz15_4 := blk_frozen BK170.out 4; have hfz15_5 := blk_frozen BK170.out 5; have hfz15_6 := blk_frozen BK170.out 6; have hfz15_7 := blk_frozen BK170.out 7))
          (try simp only [Act.put, List.setIfInBounds_toArray, List.set_cons_zero, List.set_cons_succ])
          go_cut [55] (fun v55 wc => ∃ (kq : Nat) (x55_11 : Bool), v55 = .bool x55_11 ∧ Aside0 (onairlaw06_RightsLastDecides.j1 kq t165 a1 t168 a3 t164 x10_1 x11_1 x12_1 x55_11 ((rd_T40 t165 x12_1).f0) ((rd_T40 t165 x12_1).f1) ((rd_T40 t165 x12_1).f2) ((rd_T40 t165 x12_1).f3) ((rd_T40 t165 x12_1).f4) ((rd_T40 t165 x12_1).f5) ((rd_T40 t165 x12_1).f6) ((rd_T40 t165 x12_1).f7) = some r) ∧ Aside0 (kq ≤ k1) ∧ Aside0 (Kd.R k40 40 wc w.heap.size (fun k_ => some k_ ≠ (u11 : Value).ownBlock ∧ k_ ≠ gb170) (.slice (some ad169) t165.length co13) t165) ∧ Aside0 (Kd.R k40 40 wc w.heap.size (fun k_ => some k_ ≠ ((.slice (some ad169) t165.length co13) : Value).ownBlock ∧ k_ ≠ gb170) u11 x11_1) ∧ Aside0 (wc.heap[gb170]? = some (.cells #[.int .i64 ((rd_T40 t165 x12_1).f0), .int .i64 ((rd_T40 t165 x12_1).f1), .int .i64 ((rd_T40 t165 x12_1).f2), .int .i64 ((rd_T40 t165 x12_1).f3), .int .i64 ((rd_T40 t165 x12_1).f4), .int .i64 ((rd_T40 t165 x12_1).f5), .int .i64 ((rd_T40 t165 x12_1).f6), .int .i64 ((rd_T40 t165 x12_1).f7)] 40 (0, 0))) ∧ Aside0 (Below w.heap.size w wc))
          case first =>
            have H := HC12.out
            clear HC12
            by_cases c16 : ((rd_T40 t165 x12_1).f0) = 1
            · rw [if_pos c16] at H
              have c16b0 : (((rd_T40 t165 x12_1).f0) == 1) = true := beq_iff_eq.mpr c16
              have c16b1 : (((rd_T40 t165 x12_1).f0) != 1) = false := bne_eq_false_iff_eq.mpr c16
              clear c16
              (first | rw [c16b0] | (simp only [i64_w, i32_w]; rw [c16b0]) | skip)
              replace H := Option.bind_eq_some_iff.mp H
              obtain ⟨t171, A170, H⟩ := H
              replace H : (if t171 = true then (if ((rd_T40 t165 x12_1).f1) = a1 then (if 0 ≤ t168 then (onairlaw06_RightsLastDecides.j1 k1 t165 a1 t168 a3 t164 x10_1 x11_1 x12_1 ((Int.tmod (shr .i64 ((rd_T40 t165 x12_1).f4) t168) 2) == 1) ((rd_T40 t165 x12_1).f0) ((rd_T40 t165 x12_1).f1) ((rd_T40 t165 x12_1).f2) ((rd_T40 t165 x12_1).f3) ((rd_T40 t165 x12_1).f4) ((rd_T40 t165 x12_1).f5) ((rd_T40 t165 x12_1).f6) ((rd_T40 t165 x12_1).f7)) else (none)) else (onairlaw06_RightsLastDecides.j1 k1 t165 a1 t168 a3 t164 x10_1 x11_1 x12_1 false ((rd_T40 t165 x12_1).f0) ((rd_T40 t165 x12_1).f1) ((rd_T40 t165 x12_1).f2) ((rd_T40 t165 x12_1).f3) ((rd_T40 t165 x12_1).f4) ((rd_T40 t165 x12_1).f5) ((rd_T40 t165 x12_1).f6) ((rd_T40 t165 x12_1).f7))) else (onairlaw06_RightsLastDecides.j1 k1 t165 a1 t168 a3 t164 x10_1 x11_1 x12_1 false ((rd_T40 t165 x12_1).f0) ((rd_T40 t165 x12_1).f1) ((rd_T40 t165 x12_1).f2) ((rd_T40 t165 x12_1).f3) ((rd_T40 t165 x12_1).f4) ((rd_T40 t165 x12_1).f5) ((rd_T40 t165 x12_1).f6) ((rd_T40 t165 x12_1).f7))) = some r := H
              have A17 := Aside0.mk A170
              clear A170
              by_cases c18 : t171 = true
              · subst c18
                have H1 : (if ((rd_T40 t165 x12_1).f1) = a1 then (if 0 ≤ t168 then (onairlaw06_RightsLastDecides.j1 k1 t165 a1 t168 a3 t164 x10_1 x11_1 x12_1 ((Int.tmod (shr .i64 ((rd_T40 t165 x12_1).f4) t168) 2) == 1) ((rd_T40 t165 x12_1).f0) ((rd_T40 t165 x12_1).f1) ((rd_T40 t165 x12_1).f2) ((rd_T40 t165 x12_1).f3) ((rd_T40 t165 x12_1).f4) ((rd_T40 t165 x12_1).f5) ((rd_T40 t165 x12_1).f6) ((rd_T40 t165 x12_1).f7)) else (none)) else (onairlaw06_RightsLastDecides.j1 k1 t165 a1 t168 a3 t164 x10_1 x11_1 x12_1 false ((rd_T40 t165 x12_1).f0) ((rd_T40 t165 x12_1).f1) ((rd_T40 t165 x12_1).f2) ((rd_T40 t165 x12_1).f3) ((rd_T40 t165 x12_1).f4) ((rd_T40 t165 x12_1).f5) ((rd_T40 t165 x12_1).f6) ((rd_T40 t165 x12_1).f7))) = some r := by rw [if_pos rfl] at H; exact H
                clear H
                have H := H1
                clear H1
                by_cases c19 : ((rd_T40 t165 x12_1).f1) = a1
                · rw [if_pos c19] at H
                  have c19b0 : (((rd_T40 t165 x12_1).f1) == a1) = true := beq_iff_eq.mpr c19
                  have c19b1 : (((rd_T40 t165 x12_1).f1) != a1) = false := bne_eq_false_iff_eq.mpr c19
                  clear c19
                  by_cases c20 : 0 ≤ t168
                  · rw [if_pos c20] at H
                    have c20b0 := eq_true c20
                    have c20b1 : decide (0 ≤ t168) = true := decide_eq_true c20
                    clear c20
                    obtain ⟨ji21, hji21⟩ : ∃ j_ : Int, (shr .i64 ((rd_T40 t165 x12_1).f4) t168) = j_ := ⟨_, rfl⟩
                    replace H : (onairlaw06_RightsLastDecides.j1 k1 t165 a1 t168 a3 t164 x10_1 x11_1 x12_1 ((Int.tmod (ji21) 2) == 1) ((rd_T40 t165 x12_1).f0) ((rd_T40 t165 x12_1).f1) ((rd_T40 t165 x12_1).f2) ((rd_T40 t165 x12_1).f3) ((rd_T40 t165 x12_1).f4) ((rd_T40 t165 x12_1).f5) ((rd_T40 t165 x12_1).f6) ((rd_T40 t165 x12_1).f7)) = some r := by first | (rw [hji21] at H; exact H) | (simp only [hji21] at H ⊢; exact H)
                    (try rw [hji21] at A17)
                    have hji21_ : (((rd_T40 t165 x12_1).f4) / 2 ^ min t168.toNat 64) = ji21 := hji21
                    have hji21z : t168 ≤ 64 → (((rd_T40 t165 x12_1).f4) / 2 ^ t168.toNat) = ji21 := shr_small hji21
                    have H' := Aside0.mk H
                    clear H
                    have hcz22_0 : w14.cell? ⟨gb170, 0, none⟩ = some (.int .i64 0) := (blk_cell BK170.out 0).trans rfl
                    have hcz22_1 : w14.cell? ⟨gb170, 1, none⟩ = some (.int .i64 0) := (blk_cell BK170.out 1).trans rfl
                    have hcz22_2 : w14.cell? ⟨gb170, 2, none⟩ = some (.int .i64 0) := (blk_cell BK170.out 2).trans rfl
                    have hcz22_3 : w14.cell? ⟨gb170, 3, none⟩ = some (.int .i64 0) := (blk_cell BK170.out 3).trans rfl
                    have hcz22_4 : w14.cell? ⟨gb170, 4, none⟩ = some (.int .i64 0) := (blk_cell BK170.out 4).trans rfl
                    have hcz22_5 : w14.cell? ⟨gb170, 5, none⟩ = some (.int .i64 0) := (blk_cell BK170.out 5).trans rfl
                    have hcz22_6 : w14.cell? ⟨gb170, 6, none⟩ = some (.int .i64 0) := (blk_cell BK170.out 6).trans rfl
                    have hcz22_7 : w14.cell? ⟨gb170, 7, none⟩ = some (.int .i64 0) := (blk_cell BK170.out 7).trans rfl
                    have hfz22_0 := blk_frozen BK170.out 0
                    have hfz22_1 := blk_frozen BK170.out 1
                    have hfz22_2 := blk_frozen BK170.out 2
                    have hfz22_3 := blk_frozen BK170.out 3
                    have hfz22_4 := blk_frozen BK170.out 4
                    have hfz22_5 := blk_frozen BK170.out 5
                    have hfz22_6 := blk_frozen BK170.out 6
                    have hfz22_7 := blk_frozen BK170.out 7
                    go_wp2_with (first | (go_at_call 24; (with_reducible refine (rights_Valid.calls k1 ((rd_T40 t165 x12_1).f0) ((rd_T40 t165 x12_1).f1) ((rd_T40 t165 x12_1).f2) ((rd_T40 t165 x12_1).f3) ((rd_T40 t165 x12_1).f4) ((rd_T40 t165 x12_1).f5) ((rd_T40 t165 x12_1).f6) ((rd_T40 t165 x12_1).f7) true _ A17.out).mono ?_); rintro e w23 ⟨rfl, hb⟩; have n0_ := Aside0.mk (Kd.R_below (by (with_reducible repeat (first | apply Kd.R_alloc | apply Kd.R_drewN | apply Kd.R_drew)); exact (Kd.R_mono (Kd.R_far (p := ⟨gb170, 7, none⟩) (Kd.R_far (p := ⟨gb170, 6, none⟩) (Kd.R_far (p := ⟨gb170, 5, none⟩) (Kd.R_far (p := ⟨gb170, 4, none⟩) (Kd.R_far (p := ⟨gb170, 3, none⟩) (Kd.R_far (p := ⟨gb170, 2, none⟩) (Kd.R_far (p := ⟨gb170, 1, none⟩) (Kd.R_far (p := ⟨gb170, 0, none⟩) (Kd.R_mono HO_0.out (fun k_ hk => (⟨hk, hk.2⟩ : _ ∧ k_ ≠ gb170))) (fun _ hk => hk.2) (.int .i64 ((rd_T40 t165 x12_1).f0))) (fun _ hk => hk.2) (.int .i64 ((rd_T40 t165 x12_1).f1))) (fun _ hk => hk.2) (.int .i64 ((rd_T40 t165 x12_1).f2))) (fun _ hk => hk.2) (.int .i64 ((rd_T40 t165 x12_1).f3))) (fun _ hk => hk.2) (.int .i64 ((rd_T40 t165 x12_1).f4))) (fun _ hk => hk.2) (.int .i64 ((rd_T40 t165 x12_1).f5))) (fun _ hk => hk.2) (.int .i64 ((rd_T40 t165 x12_1).f6))) (fun _ hk => hk.2) (.int .i64 ((rd_T40 t165 x12_1).f7))) (fun _ h_ => h_.1))) hb); have n1_ := Aside0.mk (Kd.R_below (by (with_reducible repeat (first | apply Kd.R_alloc | apply Kd.R_drewN | apply Kd.R_drew)); exact (Kd.R_mono (Kd.R_far (p := ⟨gb170, 7, none⟩) (Kd.R_far (p := ⟨gb170, 6, none⟩) (Kd.R_far (p := ⟨gb170, 5, none⟩) (Kd.R_far (p := ⟨gb170, 4, none⟩) (Kd.R_far (p := ⟨gb170, 3, none⟩) (Kd.R_far (p := ⟨gb170, 2, none⟩) (Kd.R_far (p := ⟨gb170, 1, none⟩) (Kd.R_far (p := ⟨gb170, 0, none⟩) (Kd.R_mono HO_11.out (fun k_ hk => (⟨hk, hk.2⟩ : _ ∧ k_ ≠ gb170))) (fun _ hk => hk.2) (.int .i64 ((rd_T40 t165 x12_1).f0))) (fun _ hk => hk.2) (.int .i64 ((rd_T40 t165 x12_1).f1))) (fun _ hk => hk.2) (.int .i64 ((rd_T40 t165 x12_1).f2))) (fun _ hk => hk.2) (.int .i64 ((rd_T40 t165 x12_1).f3))) (fun _ hk => hk.2) (.int .i64 ((rd_T40 t165 x12_1).f4))) (fun _ hk => hk.2) (.int .i64 ((rd_T40 t165 x12_1).f5))) (fun _ hk => hk.2) (.int .i64 ((rd_T40 t165 x12_1).f6))) (fun _ hk => hk.2) (.int .i64 ((rd_T40 t165 x12_1).f7))) (fun _ h_ => h_.1))) hb); have n2_ := Aside0.mk (blk_below (g := gb170) (o := .cells #[.int .i64 ((rd_T40 t165 x12_1).f0), .int .i64 ((rd_T40 t165 x12_1).f1), .int .i64 ((rd_T40 t165 x12_1).f2), .int .i64 ((rd_T40 t165 x12_1).f3), .int .i64 ((rd_T40 t165 x12_1).f4), .int .i64 ((rd_T40 t165 x12_1).f5), .int .i64 ((rd_T40 t165 x12_1).f6), .int .i64 ((rd_T40 t165 x12_1).f7)] 40 (0, 0)) (by (with_reducible repeat (first | refine blk_drewN ?_ _ | refine blk_drew ?_ | refine blk_alloc ?_ _)); refine blk_put (cs := #[.int .i64 ((rd_T40 t165 x12_1).f0), .int .i64 ((rd_T40 t165 x12_1).f1), .int .i64 ((rd_T40 t165 x12_1).f2), .int .i64 ((rd_T40 t165 x12_1).f3), .int .i64 ((rd_T40 t165 x12_1).f4), .int .i64 ((rd_T40 t165 x12_1).f5), .int .i64 ((rd_T40 t165 x12_1).f6), .int .i64 0]) ?_ 7 _ rfl; (with_reducible repeat (first | refine blk_drewN ?_ _ | refine blk_drew ?_ | refine blk_alloc ?_ _)); refine blk_put (cs := #[.int .i64 ((rd_T40 t165 x12_1).f0), .int .i64 ((rd_T40 t165 x12_1).f1), .int .i64 ((rd_T40 t165 x12_1).f2), .int .i64 ((rd_T40 t165 x12_1).f3), .int .i64 ((rd_T40 t165 x12_1).f4), .int .i64 ((rd_T40 t165 x12_1).f5), .int .i64 0, .int .i64 0]) ?_ 6 _ rfl; (with_reducible repeat (first | refine blk_drewN ?_ _ | refine blk_drew ?_ | refine blk_alloc ?_ _)); refine blk_put (cs := #[.int .i64 ((rd_T40 t165 x12_1).f0), .int .i64 ((rd_T40 t165 x12_1).f1), .int .i64 ((rd_T40 t165 x12_1).f2), .int .i64 ((rd_T40 t165 x12_1).f3), .int .i64 ((rd_T40 t165 x12_1).f4), .int .i64 0, .int .i64 0, .int .i64 0]) ?_ 5 _ rfl; (with_reducible repeat (first | refine blk_drewN ?_ _ | refine blk_drew ?_ | refine blk_alloc ?_ _)); refine blk_put (cs := #[.int .i64 ((rd_T40 t165 x12_1).f0), .int .i64 ((rd_T40 t165 x12_1).f1), .int .i64 ((rd_T40 t165 x12_1).f2), .int .i64 ((rd_T40 t165 x12_1).f3), .int .i64 0, .int .i64 0, .int .i64 0, .int .i64 0]) ?_ 4 _ rfl; (with_reducible repeat (first | refine blk_drewN ?_ _ | refine blk_drew ?_ | refine blk_alloc ?_ _)); refine blk_put (cs := #[.int .i64 ((rd_T40 t165 x12_1).f0), .int .i64 ((rd_T40 t165 x12_1).f1), .int .i64 ((rd_T40 t165 x12_1).f2), .int .i64 0, .int .i64 0, .int .i64 0, .int .i64 0, .int .i64 0]) ?_ 3 _ rfl; (with_reducible repeat (first | refine blk_drewN ?_ _ | refine blk_drew ?_ | refine blk_alloc ?_ _)); refine blk_put (cs := #[.int .i64 ((rd_T40 t165 x12_1).f0), .int .i64 ((rd_T40 t165 x12_1).f1), .int .i64 0, .int .i64 0, .int .i64 0, .int .i64 0, .int .i64 0, .int .i64 0]) ?_ 2 _ rfl; (with_reducible repeat (first | refine blk_drewN ?_ _ | refine blk_drew ?_ | refine blk_alloc ?_ _)); refine blk_put (cs := #[.int .i64 ((rd_T40 t165 x12_1).f0), .int .i64 0, .int .i64 0, .int .i64 0, .int .i64 0, .int .i64 0, .int .i64 0, .int .i64 0]) ?_ 1 _ rfl; (with_reducible repeat (first | refine blk_drewN ?_ _ | refine blk_drew ?_ | refine blk_alloc ?_ _)); refine blk_put (cs := #[.int .i64 0, .int .i64 0, .int .i64 0, .int .i64 0, .int .i64 0, .int .i64 0, .int .i64 0, .int .i64 0]) ?_ 0 _ rfl; (with_reducible repeat (first | refine blk_drewN ?_ _ | refine blk_drew ?_ | refine blk_alloc ?_ _)); exact BK170.out) hb); have n3_ := Aside0.mk (below_step (by repeat (first | (with_reducible first | exact HB.out | apply below_alloc | apply pw_below_drewN | apply below_drew1 | refine below_set ?_ GE170.out) | exact HB.out)) hb); clear HO_0; clear HO_11; clear BK170; clear HB; have HO_0 := n0_; have HO_11 := n1_; have BK170 := n2_; have HB := n3_; clear n0_ n1_ n2_ n3_; (try clear hb); (try clear hb2); (try clear hk); (try clear hi); have hcz24_0 : w23.cell? ⟨gb170, 0, none⟩ = some (.int .i64 ((rd_T40 t165 x12_1).f0)) := (blk_cell BK170.out 0).trans rfl; have hcz24_1 : w23.cell? ⟨gb170, 1, none⟩ = some (.int .i64 ((rd_T40 t165 x12_1).f1)) := (blk_cell BK170.out 1).trans rfl; have hcz24_2 : w23.cell? ⟨gb170, 2, none⟩ = some (.int .i64 ((rd_T40 t165 x12_1).f2)) := (blk_cell BK170.out 2).trans rfl; have hcz24_3 : w23.cell? ⟨gb170, 3, none⟩ = some (.int .i64 ((rd_T40 t165 x12_1).f3)) := (blk_cell BK170.out 3).trans rfl; have hcz24_4 : w23.cell? ⟨gb170, 4, none⟩ = some (.int .i64 ((rd_T40 t165 x12_1).f4)) := (blk_cell BK170.out 4).trans rfl; have hcz24_5 : w23.cell? ⟨gb170, 5, none⟩ = some (.int .i64 ((rd_T40 t165 x12_1).f5)) := (blk_cell BK170.out 5).trans rfl; have hcz24_6 : w23.cell? ⟨gb170, 6, none⟩ = some (.int .i64 ((rd_T40 t165 x12_1).f6)) := (blk_cell BK170.out 6).trans rfl; have hcz24_7 : w23.cell? ⟨gb170, 7, none⟩ = some (.int .i64 ((rd_T40 t165 x12_1).f7)) := (blk_cell BK170.out 7).trans rfl; have hfz24_0 := blk_frozen BK170.out 0; have hfz24_1 := blk_frozen BK170.out 1; have hfz24_2 := blk_frozen BK170.out 2; have hfz24_3 := blk_frozen BK170.out 3; have hfz24_4 := blk_frozen BK170.out 4; have hfz24_5 := blk_frozen BK170.out 5; have hfz24_6 := blk_frozen BK170.out 6; have hfz24_7 := blk_frozen BK170.out 7))
                    go_meet
                    case rel => exact ⟨_, (((Int.tmod (ji21) 2) == 1)), (by first | rfl | (simp; done) | (simp only [← hji21] <;> (first | rfl | simp)) | (simp [*]; done)), H', ⟨by have := HK1.out; first | omega | exact Nat.le_refl _⟩, ⟨by (with_reducible repeat (first | apply Kd.R_alloc | apply Kd.R_drewN | apply Kd.R_drew)); exact HO_0.out⟩, ⟨by (with_reducible repeat (first | apply Kd.R_alloc | apply Kd.R_drewN | apply Kd.R_drew)); exact HO_11.out⟩, ⟨by (with_reducible repeat (first | refine blk_drewN ?_ _ | refine blk_drew ?_ | refine blk_alloc ?_ _)); exact BK170.out⟩, ⟨by repeat (first | (with_reducible first | exact HB.out | apply below_alloc | apply pw_below_drewN | apply below_drew1 | refine below_set ?_ GE170.out) | exact HB.out)⟩⟩
                  · rw [if_neg c20] at H
                    exact absurd H (by simp)
                · rw [if_neg c19] at H
                  have c19b0 : (((rd_T40 t165 x12_1).f1) == a1) = false := beq_eq_false_iff_ne.mpr c19
                  have c19b1 : (((rd_T40 t165 x12_1).f1) != a1) = true := bne_iff_ne.mpr c19
                  have H' := Aside0.mk H
                  clear H
                  have hcz25_0 : w14.cell? ⟨gb170, 0, none⟩ = some (.int .i64 0) := (blk_cell BK170.out 0).trans rfl
                  have hcz25_1 : w14.cell? ⟨gb170, 1, none⟩ = some (.int .i64 0) := (blk_cell BK170.out 1).trans rfl
                  have hcz25_2 : w14.cell? ⟨gb170, 2, none⟩ = some (.int .i64 0) := (blk_cell BK170.out 2).trans rfl
                  have hcz25_3 : w14.cell? ⟨gb170, 3, none⟩ = some (.int .i64 0) := (blk_cell BK170.out 3).trans rfl
                  have hcz25_4 : w14.cell? ⟨gb170, 4, none⟩ = some (.int .i64 0) := (blk_cell BK170.out 4).trans rfl
                  have hcz25_5 : w14.cell? ⟨gb170, 5, none⟩ = some (.int .i64 0) := (blk_cell BK170.out 5).trans rfl
                  have hcz25_6 : w14.cell? ⟨gb170, 6, none⟩ = some (.int .i64 0) := (blk_cell BK170.out 6).trans rfl
                  have hcz25_7 : w14.cell? ⟨gb170, 7, none⟩ = some (.int .i64 0) := (blk_cell BK170.out 7).trans rfl
                  have hfz25_0 := blk_frozen BK170.out 0
                  have hfz25_1 := blk_frozen BK170.out 1
                  have hfz25_2 := blk_frozen BK170.out 2
                  have hfz25_3 := blk_frozen BK170.out 3
                  have hfz25_4 := blk_frozen BK170.out 4
                  have hfz25_5 := blk_frozen BK170.out 5
                  have hfz25_6 := blk_frozen BK170.out 6
                  have hfz25_7 := blk_frozen BK170.out 7
                  go_wp2_with (first | (go_at_call 24; (with_reducible refine (rights_Valid.calls k1 ((rd_T40 t165 x12_1).f0) ((rd_T40 t165 x12_1).f1) ((rd_T40 t165 x12_1).f2) ((rd_T40 t165 x12_1).f3) ((rd_T40 t165 x12_1).f4) ((rd_T40 t165 x12_1).f5) ((rd_T40 t165 x12_1).f6) ((rd_T40 t165 x12_1).f7) true _ A17.out).mono ?_); rintro e w26 ⟨rfl, hb⟩; have n0_ := Aside0.mk (Kd.R_below (by (with_reducible repeat (first | apply Kd.R_alloc | apply Kd.R_drewN | apply Kd.R_drew)); exact (Kd.R_mono (Kd.R_far (p := ⟨gb170, 7, none⟩) (Kd.R_far (p := ⟨gb170, 6, none⟩) (Kd.R_far (p := ⟨gb170, 5, none⟩) (Kd.R_far (p := ⟨gb170, 4, none⟩) (Kd.R_far (p := ⟨gb170, 3, none⟩) (Kd.R_far (p := ⟨gb170, 2, none⟩) (Kd.R_far (p := ⟨gb170, 1, none⟩) (Kd.R_far (p := ⟨gb170, 0, none⟩) (Kd.R_mono HO_0.out (fun k_ hk => (⟨hk, hk.2⟩ : _ ∧ k_ ≠ gb170))) (fun _ hk => hk.2) (.int .i64 ((rd_T40 t165 x12_1).f0))) (fun _ hk => hk.2) (.int .i64 ((rd_T40 t165 x12_1).f1))) (fun _ hk => hk.2) (.int .i64 ((rd_T40 t165 x12_1).f2))) (fun _ hk => hk.2) (.int .i64 ((rd_T40 t165 x12_1).f3))) (fun _ hk => hk.2) (.int .i64 ((rd_T40 t165 x12_1).f4))) (fun _ hk => hk.2) (.int .i64 ((rd_T40 t165 x12_1).f5))) (fun _ hk => hk.2) (.int .i64 ((rd_T40 t165 x12_1).f6))) (fun _ hk => hk.2) (.int .i64 ((rd_T40 t165 x12_1).f7))) (fun _ h_ => h_.1))) hb); have n1_ := Aside0.mk (Kd.R_below (by (with_reducible repeat (first | apply Kd.R_alloc | apply Kd.R_drewN | apply Kd.R_drew)); exact (Kd.R_mono (Kd.R_far (p := ⟨gb170, 7, none⟩) (Kd.R_far (p := ⟨gb170, 6, none⟩) (Kd.R_far (p := ⟨gb170, 5, none⟩) (Kd.R_far (p := ⟨gb170, 4, none⟩) (Kd.R_far (p := ⟨gb170, 3, none⟩) (Kd.R_far (p := ⟨gb170, 2, none⟩) (Kd.R_far (p := ⟨gb170, 1, none⟩) (Kd.R_far (p := ⟨gb170, 0, none⟩) (Kd.R_mono HO_11.out (fun k_ hk => (⟨hk, hk.2⟩ : _ ∧ k_ ≠ gb170))) (fun _ hk => hk.2) (.int .i64 ((rd_T40 t165 x12_1).f0))) (fun _ hk => hk.2) (.int .i64 ((rd_T40 t165 x12_1).f1))) (fun _ hk => hk.2) (.int .i64 ((rd_T40 t165 x12_1).f2))) (fun _ hk => hk.2) (.int .i64 ((rd_T40 t165 x12_1).f3))) (fun _ hk => hk.2) (.int .i64 ((rd_T40 t165 x12_1).f4))) (fun _ hk => hk.2) (.int .i64 ((rd_T40 t165 x12_1).f5))) (fun _ hk => hk.2) (.int .i64 ((rd_T40 t165 x12_1).f6))) (fun _ hk => hk.2) (.int .i64 ((rd_T40 t165 x12_1).f7))) (fun _ h_ => h_.1))) hb); have n2_ := Aside0.mk (blk_below (g := gb170) (o := .cells #[.int .i64 ((rd_T40 t165 x12_1).f0), .int .i64 ((rd_T40 t165 x12_1).f1), .int .i64 ((rd_T40 t165 x12_1).f2), .int .i64 ((rd_T40 t165 x12_1).f3), .int .i64 ((rd_T40 t165 x12_1).f4), .int .i64 ((rd_T40 t165 x12_1).f5), .int .i64 ((rd_T40 t165 x12_1).f6), .int .i64 ((rd_T40 t165 x12_1).f7)] 40 (0, 0)) (by (with_reducible repeat (first | refine blk_drewN ?_ _ | refine blk_drew ?_ | refine blk_alloc ?_ _)); refine blk_put (cs := #[.int .i64 ((rd_T40 t165 x12_1).f0), .int .i64 ((rd_T40 t165 x12_1).f1), .int .i64 ((rd_T40 t165 x12_1).f2), .int .i64 ((rd_T40 t165 x12_1).f3), .int .i64 ((rd_T40 t165 x12_1).f4), .int .i64 ((rd_T40 t165 x12_1).f5), .int .i64 ((rd_T40 t165 x12_1).f6), .int .i64 0]) ?_ 7 _ rfl; (with_reducible repeat (first | refine blk_drewN ?_ _ | refine blk_drew ?_ | refine blk_alloc ?_ _)); refine blk_put (cs := #[.int .i64 ((rd_T40 t165 x12_1).f0), .int .i64 ((rd_T40 t165 x12_1).f1), .int .i64 ((rd_T40 t165 x12_1).f2), .int .i64 ((rd_T40 t165 x12_1).f3), .int .i64 ((rd_T40 t165 x12_1).f4), .int .i64 ((rd_T40 t165 x12_1).f5), .int .i64 0, .int .i64 0]) ?_ 6 _ rfl; (with_reducible repeat (first | refine blk_drewN ?_ _ | refine blk_drew ?_ | refine blk_alloc ?_ _)); refine blk_put (cs := #[.int .i64 ((rd_T40 t165 x12_1).f0), .int .i64 ((rd_T40 t165 x12_1).f1), .int .i64 ((rd_T40 t165 x12_1).f2), .int .i64 ((rd_T40 t165 x12_1).f3), .int .i64 ((rd_T40 t165 x12_1).f4), .int .i64 0, .int .i64 0, .int .i64 0]) ?_ 5 _ rfl; (with_reducible repeat (first | refine blk_drewN ?_ _ | refine blk_drew ?_ | refine blk_alloc ?_ _)); refine blk_put (cs := #[.int .i64 ((rd_T40 t165 x12_1).f0), .int .i64 ((rd_T40 t165 x12_1).f1), .int .i64 ((rd_T40 t165 x12_1).f2), .int .i64 ((rd_T40 t165 x12_1).f3), .int .i64 0, .int .i64 0, .int .i64 0, .int .i64 0]) ?_ 4 _ rfl; (with_reducible repeat (first | refine blk_drewN ?_ _ | refine blk_drew ?_ | refine blk_alloc ?_ _)); refine blk_put (cs := #[.int .i64 ((rd_T40 t165 x12_1).f0), .int .i64 ((rd_T40 t165 x12_1).f1), .int .i64 ((rd_T40 t165 x12_1).f2), .int .i64 0, .int .i64 0, .int .i64 0, .int .i64 0, .int .i64 0]) ?_ 3 _ rfl; (with_reducible repeat (first | refine blk_drewN ?_ _ | refine blk_drew ?_ | refine blk_alloc ?_ _)); refine blk_put (cs := #[.int .i64 ((rd_T40 t165 x12_1).f0), .int .i64 ((rd_T40 t165 x12_1).f1), .int .i64 0, .int .i64 0, .int .i64 0, .int .i64 0, .int .i64 0, .int .i64 0]) ?_ 2 _ rfl; (with_reducible repeat (first | refine blk_drewN ?_ _ | refine blk_drew ?_ | refine blk_alloc ?_ _)); refine blk_put (cs := #[.int .i64 ((rd_T40 t165 x12_1).f0), .int .i64 0, .int .i64 0, .int .i64 0, .int .i64 0, .int .i64 0, .int .i64 0, .int .i64 0]) ?_ 1 _ rfl; (with_reducible repeat (first | refine blk_drewN ?_ _ | refine blk_drew ?_ | refine blk_alloc ?_ _)); refine blk_put (cs := #[.int .i64 0, .int .i64 0, .int .i64 0, .int .i64 0, .int .i64 0, .int .i64 0, .int .i64 0, .int .i64 0]) ?_ 0 _ rfl; (with_reducible repeat (first | refine blk_drewN ?_ _ | refine blk_drew ?_ | refine blk_alloc ?_ _)); exact BK170.out) hb); have n3_ := Aside0.mk (below_step (by repeat (first | (with_reducible first | exact HB.out | apply below_alloc | apply pw_below_drewN | apply below_drew1 | refine below_set ?_ GE170.out) | exact HB.out)) hb); clear HO_0; clear HO_11; clear BK170; clear HB; have HO_0 := n0_; have HO_11 := n1_; have BK170 := n2_; have HB := n3_; clear n0_ n1_ n2_ n3_; (try clear hb); (try clear hb2); (try clear hk); (try clear hi); have hcz27_0 : w26.cell? ⟨gb170, 0, none⟩ = some (.int .i64 ((rd_T40 t165 x12_1).f0)) := (blk_cell BK170.out 0).trans rfl; have hcz27_1 : w26.cell? ⟨gb170, 1, none⟩ = some (.int .i64 ((rd_T40 t165 x12_1).f1)) := (blk_cell BK170.out 1).trans rfl; have hcz27_2 : w26.cell? ⟨gb170, 2, none⟩ = some (.int .i64 ((rd_T40 t165 x12_1).f2)) := (blk_cell BK170.out 2).trans rfl; have hcz27_3 : w26.cell? ⟨gb170, 3, none⟩ = some (.int .i64 ((rd_T40 t165 x12_1).f3)) := (blk_cell BK170.out 3).trans rfl; have hcz27_4 : w26.cell? ⟨gb170, 4, none⟩ = some (.int .i64 ((rd_T40 t165 x12_1).f4)) := (blk_cell BK170.out 4).trans rfl; have hcz27_5 : w26.cell? ⟨gb170, 5, none⟩ = some (.int .i64 ((rd_T40 t165 x12_1).f5)) := (blk_cell BK170.out 5).trans rfl; have hcz27_6 : w26.cell? ⟨gb170, 6, none⟩ = some (.int .i64 ((rd_T40 t165 x12_1).f6)) := (blk_cell BK170.out 6).trans rfl; have hcz27_7 : w26.cell? ⟨gb170, 7, none⟩ = some (.int .i64 ((rd_T40 t165 x12_1).f7)) := (blk_cell BK170.out 7).trans rfl; have hfz27_0 := blk_frozen BK170.out 0; have hfz27_1 := blk_frozen BK170.out 1; have hfz27_2 := blk_frozen BK170.out 2; have hfz27_3 := blk_frozen BK170.out 3; have hfz27_4 := blk_frozen BK170.out 4; have hfz27_5 := blk_frozen BK170.out 5; have hfz27_6 := blk_frozen BK170.out 6; have hfz27_7 := blk_frozen BK170.out 7))
                  go_meet
                  case rel => exact ⟨_, (false), (by first | rfl | (simp; done) | (simp [*]; done)), H', ⟨by have := HK1.out; first | omega | exact Nat.le_refl _⟩, ⟨by (with_reducible repeat (first | apply Kd.R_alloc | apply Kd.R_drewN | apply Kd.R_drew)); exact HO_0.out⟩, ⟨by (with_reducible repeat (first | apply Kd.R_alloc | apply Kd.R_drewN | apply Kd.R_drew)); exact HO_11.out⟩, ⟨by (with_reducible repeat (first | refine blk_drewN ?_ _ | refine blk_drew ?_ | refine blk_alloc ?_ _)); exact BK170.out⟩, ⟨by repeat (first | (with_reducible first | exact HB.out | apply below_alloc | apply pw_below_drewN | apply below_drew1 | refine below_set ?_ GE170.out) | exact HB.out)⟩⟩
              · replace c18 := Bool.eq_false_iff.mpr c18
                subst c18
                have H1 : (onairlaw06_RightsLastDecides.j1 k1 t165 a1 t168 a3 t164 x10_1 x11_1 x12_1 false ((rd_T40 t165 x12_1).f0) ((rd_T40 t165 x12_1).f1) ((rd_T40 t165 x12_1).f2) ((rd_T40 t165 x12_1).f3) ((rd_T40 t165 x12_1).f4) ((rd_T40 t165 x12_1).f5) ((rd_T40 t165 x12_1).f6) ((rd_T40 t165 x12_1).f7)) = some r := by rw [if_neg (show ¬ (false = true) by decide)] at H; exact H
                clear H
                have H := H1
                clear H1
                have H' := Aside0.mk H
                clear H
                have hcz28_0 : w14.cell? ⟨gb170, 0, none⟩ = some (.int .i64 0) := (blk_cell BK170.out 0).trans rfl
                have hcz28_1 : w14.cell? ⟨gb170, 1, none⟩ = some (.int .i64 0) := (blk_cell BK170.out 1).trans rfl
                have hcz28_2 : w14.cell? ⟨gb170, 2, none⟩ = some (.int .i64 0) := (blk_cell BK170.out 2).trans rfl
                have hcz28_3 : w14.cell? ⟨gb170, 3, none⟩ = some (.int .i64 0) := (blk_cell BK170.out 3).trans rfl
                have hcz28_4 : w14.cell? ⟨gb170, 4, none⟩ = some (.int .i64 0) := (blk_cell BK170.out 4).trans rfl
                have hcz28_5 : w14.cell? ⟨gb170, 5, none⟩ = some (.int .i64 0) := (blk_cell BK170.out 5).trans rfl
                have hcz28_6 : w14.cell? ⟨gb170, 6, none⟩ = some (.int .i64 0) := (blk_cell BK170.out 6).trans rfl
                have hcz28_7 : w14.cell? ⟨gb170, 7, none⟩ = some (.int .i64 0) := (blk_cell BK170.out 7).trans rfl
                have hfz28_0 := blk_frozen BK170.out 0
                have hfz28_1 := blk_frozen BK170.out 1
                have hfz28_2 := blk_frozen BK170.out 2
                have hfz28_3 := blk_frozen BK170.out 3
                have hfz28_4 := blk_frozen BK170.out 4
                have hfz28_5 := blk_frozen BK170.out 5
                have hfz28_6 := blk_frozen BK170.out 6
                have hfz28_7 := blk_frozen BK170.out 7
                go_wp2_with (first | (go_at_call 24; (with_reducible refine (rights_Valid.calls k1 ((rd_T40 t165 x12_1).f0) ((rd_T40 t165 x12_1).f1) ((rd_T40 t165 x12_1).f2) ((rd_T40 t165 x12_1).f3) ((rd_T40 t165 x12_1).f4) ((rd_T40 t165 x12_1).f5) ((rd_T40 t165 x12_1).f6) ((rd_T40 t165 x12_1).f7) false _ A17.out).mono ?_); rintro e w29 ⟨rfl, hb⟩; have n0_ := Aside0.mk (Kd.R_below (by (with_reducible repeat (first | apply Kd.R_alloc | apply Kd.R_drewN | apply Kd.R_drew)); exact (Kd.R_mono (Kd.R_far (p := ⟨gb170, 7, none⟩) (Kd.R_far (p := ⟨gb170, 6, none⟩) (Kd.R_far (p := ⟨gb170, 5, none⟩) (Kd.R_far (p := ⟨gb170, 4, none⟩) (Kd.R_far (p := ⟨gb170, 3, none⟩) (Kd.R_far (p := ⟨gb170, 2, none⟩) (Kd.R_far (p := ⟨gb170, 1, none⟩) (Kd.R_far (p := ⟨gb170, 0, none⟩) (Kd.R_mono HO_0.out (fun k_ hk => (⟨hk, hk.2⟩ : _ ∧ k_ ≠ gb170))) (fun _ hk => hk.2) (.int .i64 ((rd_T40 t165 x12_1).f0))) (fun _ hk => hk.2) (.int .i64 ((rd_T40 t165 x12_1).f1))) (fun _ hk => hk.2) (.int .i64 ((rd_T40 t165 x12_1).f2))) (fun _ hk => hk.2) (.int .i64 ((rd_T40 t165 x12_1).f3))) (fun _ hk => hk.2) (.int .i64 ((rd_T40 t165 x12_1).f4))) (fun _ hk => hk.2) (.int .i64 ((rd_T40 t165 x12_1).f5))) (fun _ hk => hk.2) (.int .i64 ((rd_T40 t165 x12_1).f6))) (fun _ hk => hk.2) (.int .i64 ((rd_T40 t165 x12_1).f7))) (fun _ h_ => h_.1))) hb); have n1_ := Aside0.mk (Kd.R_below (by (with_reducible repeat (first | apply Kd.R_alloc | apply Kd.R_drewN | apply Kd.R_drew)); exact (Kd.R_mono (Kd.R_far (p := ⟨gb170, 7, none⟩) (Kd.R_far (p := ⟨gb170, 6, none⟩) (Kd.R_far (p := ⟨gb170, 5, none⟩) (Kd.R_far (p := ⟨gb170, 4, none⟩) (Kd.R_far (p := ⟨gb170, 3, none⟩) (Kd.R_far (p := ⟨gb170, 2, none⟩) (Kd.R_far (p := ⟨gb170, 1, none⟩) (Kd.R_far (p := ⟨gb170, 0, none⟩) (Kd.R_mono HO_11.out (fun k_ hk => (⟨hk, hk.2⟩ : _ ∧ k_ ≠ gb170))) (fun _ hk => hk.2) (.int .i64 ((rd_T40 t165 x12_1).f0))) (fun _ hk => hk.2) (.int .i64 ((rd_T40 t165 x12_1).f1))) (fun _ hk => hk.2) (.int .i64 ((rd_T40 t165 x12_1).f2))) (fun _ hk => hk.2) (.int .i64 ((rd_T40 t165 x12_1).f3))) (fun _ hk => hk.2) (.int .i64 ((rd_T40 t165 x12_1).f4))) (fun _ hk => hk.2) (.int .i64 ((rd_T40 t165 x12_1).f5))) (fun _ hk => hk.2) (.int .i64 ((rd_T40 t165 x12_1).f6))) (fun _ hk => hk.2) (.int .i64 ((rd_T40 t165 x12_1).f7))) (fun _ h_ => h_.1))) hb); have n2_ := Aside0.mk (blk_below (g := gb170) (o := .cells #[.int .i64 ((rd_T40 t165 x12_1).f0), .int .i64 ((rd_T40 t165 x12_1).f1), .int .i64 ((rd_T40 t165 x12_1).f2), .int .i64 ((rd_T40 t165 x12_1).f3), .int .i64 ((rd_T40 t165 x12_1).f4), .int .i64 ((rd_T40 t165 x12_1).f5), .int .i64 ((rd_T40 t165 x12_1).f6), .int .i64 ((rd_T40 t165 x12_1).f7)] 40 (0, 0)) (by (with_reducible repeat (first | refine blk_drewN ?_ _ | refine blk_drew ?_ | refine blk_alloc ?_ _)); refine blk_put (cs := #[.int .i64 ((rd_T40 t165 x12_1).f0), .int .i64 ((rd_T40 t165 x12_1).f1), .int .i64 ((rd_T40 t165 x12_1).f2), .int .i64 ((rd_T40 t165 x12_1).f3), .int .i64 ((rd_T40 t165 x12_1).f4), .int .i64 ((rd_T40 t165 x12_1).f5), .int .i64 ((rd_T40 t165 x12_1).f6), .int .i64 0]) ?_ 7 _ rfl; (with_reducible repeat (first | refine blk_drewN ?_ _ | refine blk_drew ?_ | refine blk_alloc ?_ _)); refine blk_put (cs := #[.int .i64 ((rd_T40 t165 x12_1).f0), .int .i64 ((rd_T40 t165 x12_1).f1), .int .i64 ((rd_T40 t165 x12_1).f2), .int .i64 ((rd_T40 t165 x12_1).f3), .int .i64 ((rd_T40 t165 x12_1).f4), .int .i64 ((rd_T40 t165 x12_1).f5), .int .i64 0, .int .i64 0]) ?_ 6 _ rfl; (with_reducible repeat (first | refine blk_drewN ?_ _ | refine blk_drew ?_ | refine blk_alloc ?_ _)); refine blk_put (cs := #[.int .i64 ((rd_T40 t165 x12_1).f0), .int .i64 ((rd_T40 t165 x12_1).f1), .int .i64 ((rd_T40 t165 x12_1).f2), .int .i64 ((rd_T40 t165 x12_1).f3), .int .i64 ((rd_T40 t165 x12_1).f4), .int .i64 0, .int .i64 0, .int .i64 0]) ?_ 5 _ rfl; (with_reducible repeat (first | refine blk_drewN ?_ _ | refine blk_drew ?_ | refine blk_alloc ?_ _)); refine blk_put (cs := #[.int .i64 ((rd_T40 t165 x12_1).f0), .int .i64 ((rd_T40 t165 x12_1).f1), .int .i64 ((rd_T40 t165 x12_1).f2), .int .i64 ((rd_T40 t165 x12_1).f3), .int .i64 0, .int .i64 0, .int .i64 0, .int .i64 0]) ?_ 4 _ rfl; (with_reducible repeat (first | refine blk_drewN ?_ _ | refine blk_drew ?_ | refine blk_alloc ?_ _)); refine blk_put (cs := #[.int .i64 ((rd_T40 t165 x12_1).f0), .int .i64 ((rd_T40 t165 x12_1).f1), .int .i64 ((rd_T40 t165 x12_1).f2), .int .i64 0, .int .i64 0, .int .i64 0, .int .i64 0, .int .i64 0]) ?_ 3 _ rfl; (with_reducible repeat (first | refine blk_drewN ?_ _ | refine blk_drew ?_ | refine blk_alloc ?_ _)); refine blk_put (cs := #[.int .i64 ((rd_T40 t165 x12_1).f0), .int .i64 ((rd_T40 t165 x12_1).f1), .int .i64 0, .int .i64 0, .int .i64 0, .int .i64 0, .int .i64 0, .int .i64 0]) ?_ 2 _ rfl; (with_reducible repeat (first | refine blk_drewN ?_ _ | refine blk_drew ?_ | refine blk_alloc ?_ _)); refine blk_put (cs := #[.int .i64 ((rd_T40 t165 x12_1).f0), .int .i64 0, .int .i64 0, .int .i64 0, .int .i64 0, .int .i64 0, .int .i64 0, .int .i64 0]) ?_ 1 _ rfl; (with_reducible repeat (first | refine blk_drewN ?_ _ | refine blk_drew ?_ | refine blk_alloc ?_ _)); refine blk_put (cs := #[.int .i64 0, .int .i64 0, .int .i64 0, .int .i64 0, .int .i64 0, .int .i64 0, .int .i64 0, .int .i64 0]) ?_ 0 _ rfl; (with_reducible repeat (first | refine blk_drewN ?_ _ | refine blk_drew ?_ | refine blk_alloc ?_ _)); exact BK170.out) hb); have n3_ := Aside0.mk (below_step (by repeat (first | (with_reducible first | exact HB.out | apply below_alloc | apply pw_below_drewN | apply below_drew1 | refine below_set ?_ GE170.out) | exact HB.out)) hb); clear HO_0; clear HO_11; clear BK170; clear HB; have HO_0 := n0_; have HO_11 := n1_; have BK170 := n2_; have HB := n3_; clear n0_ n1_ n2_ n3_; (try clear hb); (try clear hb2); (try clear hk); (try clear hi)))
                go_meet
                case rel => exact ⟨_, (false), (by first | rfl | (simp; done) | (simp [*]; done)), H', ⟨by have := HK1.out; first | omega | exact Nat.le_refl _⟩, ⟨by (with_reducible repeat (first | apply Kd.R_alloc | apply Kd.R_drewN | apply Kd.R_drew)); exact HO_0.out⟩, ⟨by (with_reducible repeat (first | apply Kd.R_alloc | apply Kd.R_drewN | apply Kd.R_drew)); exact HO_11.out⟩, ⟨by (with_reducible repeat (first | refine blk_drewN ?_ _ | refine blk_drew ?_ | refine blk_alloc ?_ _)); exact BK170.out⟩, ⟨by repeat (first | (with_reducible first | exact HB.out | apply below_alloc | apply pw_below_drewN | apply below_drew1 | refine below_set ?_ GE170.out) | exact HB.out)⟩⟩
            · rw [if_neg c16] at H
              have c16b0 : (((rd_T40 t165 x12_1).f0) == 1) = false := beq_eq_false_iff_ne.mpr c16
              have c16b1 : (((rd_T40 t165 x12_1).f0) != 1) = true := bne_iff_ne.mpr c16
              (first | rw [c16b0] | (simp only [i64_w, i32_w]; rw [c16b0]) | skip)
              by_cases c30 : ((rd_T40 t165 x12_1).f0) = 2
              · rw [if_pos c30] at H
                have c30b0 : (((rd_T40 t165 x12_1).f0) == 2) = true := beq_iff_eq.mpr c30
                have c30b1 : (((rd_T40 t165 x12_1).f0) != 2) = false := bne_eq_false_iff_eq.mpr c30
                clear c30
                replace H := Option.bind_eq_some_iff.mp H
                obtain ⟨t172, A310, H⟩ := H
                replace H : (if t172 = true then (if ((rd_T40 t165 x12_1).f1) = a1 then (if 0 ≤ t168 then (onairlaw06_RightsLastDecides.j1 k1 t165 a1 t168 a3 t164 x10_1 x11_1 x12_1 ((Int.tmod (shr .i64 ((rd_T40 t165 x12_1).f4) t168) 2) == 1) ((rd_T40 t165 x12_1).f0) ((rd_T40 t165 x12_1).f1) ((rd_T40 t165 x12_1).f2) ((rd_T40 t165 x12_1).f3) ((rd_T40 t165 x12_1).f4) ((rd_T40 t165 x12_1).f5) ((rd_T40 t165 x12_1).f6) ((rd_T40 t165 x12_1).f7)) else (none)) else (onairlaw06_RightsLastDecides.j1 k1 t165 a1 t168 a3 t164 x10_1 x11_1 x12_1 false ((rd_T40 t165 x12_1).f0) ((rd_T40 t165 x12_1).f1) ((rd_T40 t165 x12_1).f2) ((rd_T40 t165 x12_1).f3) ((rd_T40 t165 x12_1).f4) ((rd_T40 t165 x12_1).f5) ((rd_T40 t165 x12_1).f6) ((rd_T40 t165 x12_1).f7))) else (onairlaw06_RightsLastDecides.j1 k1 t165 a1 t168 a3 t164 x10_1 x11_1 x12_1 false ((rd_T40 t165 x12_1).f0) ((rd_T40 t165 x12_1).f1) ((rd_T40 t165 x12_1).f2) ((rd_T40 t165 x12_1).f3) ((rd_T40 t165 x12_1).f4) ((rd_T40 t165 x12_1).f5) ((rd_T40 t165 x12_1).f6) ((rd_T40 t165 x12_1).f7))) = some r := H
                have A31 := Aside0.mk A310
                clear A310
                by_cases c32 : t172 = true
                · subst c32
                  have H1 : (if ((rd_T40 t165 x12_1).f1) = a1 then (if 0 ≤ t168 then (onairlaw06_RightsLastDecides.j1 k1 t165 a1 t168 a3 t164 x10_1 x11_1 x12_1 ((Int.tmod (shr .i64 ((rd_T40 t165 x12_1).f4) t168) 2) == 1) ((rd_T40 t165 x12_1).f0) ((rd_T40 t165 x12_1).f1) ((rd_T40 t165 x12_1).f2) ((rd_T40 t165 x12_1).f3) ((rd_T40 t165 x12_1).f4) ((rd_T40 t165 x12_1).f5) ((rd_T40 t165 x12_1).f6) ((rd_T40 t165 x12_1).f7)) else (none)) else (onairlaw06_RightsLastDecides.j1 k1 t165 a1 t168 a3 t164 x10_1 x11_1 x12_1 false ((rd_T40 t165 x12_1).f0) ((rd_T40 t165 x12_1).f1) ((rd_T40 t165 x12_1).f2) ((rd_T40 t165 x12_1).f3) ((rd_T40 t165 x12_1).f4) ((rd_T40 t165 x12_1).f5) ((rd_T40 t165 x12_1).f6) ((rd_T40 t165 x12_1).f7))) = some r := by rw [if_pos rfl] at H; exact H
                  clear H
                  have H := H1
                  clear H1
                  by_cases c33 : ((rd_T40 t165 x12_1).f1) = a1
                  · rw [if_pos c33] at H
                    have c33b0 : (((rd_T40 t165 x12_1).f1) == a1) = true := beq_iff_eq.mpr c33
                    have c33b1 : (((rd_T40 t165 x12_1).f1) != a1) = false := bne_eq_false_iff_eq.mpr c33
                    clear c33
                    by_cases c34 : 0 ≤ t168
                    · rw [if_pos c34] at H
                      have c34b0 := eq_true c34
                      have c34b1 : decide (0 ≤ t168) = true := decide_eq_true c34
                      clear c34
                      obtain ⟨ji35, hji35⟩ : ∃ j_ : Int, (shr .i64 ((rd_T40 t165 x12_1).f4) t168) = j_ := ⟨_, rfl⟩
                      replace H : (onairlaw06_RightsLastDecides.j1 k1 t165 a1 t168 a3 t164 x10_1 x11_1 x12_1 ((Int.tmod (ji35) 2) == 1) ((rd_T40 t165 x12_1).f0) ((rd_T40 t165 x12_1).f1) ((rd_T40 t165 x12_1).f2) ((rd_T40 t165 x12_1).f3) ((rd_T40 t165 x12_1).f4) ((rd_T40 t165 x12_1).f5) ((rd_T40 t165 x12_1).f6) ((rd_T40 t165 x12_1).f7)) = some r := by first | (rw [hji35] at H; exact H) | (simp only [hji35] at H ⊢; exact H)
                      (try rw [hji35] at A31)
                      have hji35_ : (((rd_T40 t165 x12_1).f4) / 2 ^ min t168.toNat 64) = ji35 := hji35
                      have hji35z : t168 ≤ 64 → (((rd_T40 t165 x12_1).f4) / 2 ^ t168.toNat) = ji35 := shr_small hji35
                      have H' := Aside0.mk H
                      clear H
                      have hcz36_0 : w14.cell? ⟨gb170, 0, none⟩ = some (.int .i64 0) := (blk_cell BK170.out 0).trans rfl
                      have hcz36_1 : w14.cell? ⟨gb170, 1, none⟩ = some (.int .i64 0) := (blk_cell BK170.out 1).trans rfl
                      have hcz36_2 : w14.cell? ⟨gb170, 2, none⟩ = some (.int .i64 0) := (blk_cell BK170.out 2).trans rfl
                      have hcz36_3 : w14.cell? ⟨gb170, 3, none⟩ = some (.int .i64 0) := (blk_cell BK170.out 3).trans rfl
                      have hcz36_4 : w14.cell? ⟨gb170, 4, none⟩ = some (.int .i64 0) := (blk_cell BK170.out 4).trans rfl
                      have hcz36_5 : w14.cell? ⟨gb170, 5, none⟩ = some (.int .i64 0) := (blk_cell BK170.out 5).trans rfl
                      have hcz36_6 : w14.cell? ⟨gb170, 6, none⟩ = some (.int .i64 0) := (blk_cell BK170.out 6).trans rfl
                      have hcz36_7 : w14.cell? ⟨gb170, 7, none⟩ = some (.int .i64 0) := (blk_cell BK170.out 7).trans rfl
                      have hfz36_0 := blk_frozen BK170.out 0
                      have hfz36_1 := blk_frozen BK170.out 1
                      have hfz36_2 := blk_frozen BK170.out 2
                      have hfz36_3 := blk_frozen BK170.out 3
                      have hfz36_4 := blk_frozen BK170.out 4
                      have hfz36_5 := blk_frozen BK170.out 5
                      have hfz36_6 := blk_frozen BK170.out 6
                      have hfz36_7 := blk_frozen BK170.out 7
                      go_wp2_with (first | (go_at_call 24; (with_reducible refine (rights_Valid.calls k1 ((rd_T40 t165 x12_1).f0) ((rd_T40 t165 x12_1).f1) ((rd_T40 t165 x12_1).f2) ((rd_T40 t165 x12_1).f3) ((rd_T40 t165 x12_1).f4) ((rd_T40 t165 x12_1).f5) ((rd_T40 t165 x12_1).f6) ((rd_T40 t165 x12_1).f7) true _ A31.out).mono ?_); rintro e w37 ⟨rfl, hb⟩; have n0_ := Aside0.mk (Kd.R_below (by (with_reducible repeat (first | apply Kd.R_alloc | apply Kd.R_drewN | apply Kd.R_drew)); exact (Kd.R_mono (Kd.R_far (p := ⟨gb170, 7, none⟩) (Kd.R_far (p := ⟨gb170, 6, none⟩) (Kd.R_far (p := ⟨gb170, 5, none⟩) (Kd.R_far (p := ⟨gb170, 4, none⟩) (Kd.R_far (p := ⟨gb170, 3, none⟩) (Kd.R_far (p := ⟨gb170, 2, none⟩) (Kd.R_far (p := ⟨gb170, 1, none⟩) (Kd.R_far (p := ⟨gb170, 0, none⟩) (Kd.R_mono HO_0.out (fun k_ hk => (⟨hk, hk.2⟩ : _ ∧ k_ ≠ gb170))) (fun _ hk => hk.2) (.int .i64 ((rd_T40 t165 x12_1).f0))) (fun _ hk => hk.2) (.int .i64 ((rd_T40 t165 x12_1).f1))) (fun _ hk => hk.2) (.int .i64 ((rd_T40 t165 x12_1).f2))) (fun _ hk => hk.2) (.int .i64 ((rd_T40 t165 x12_1).f3))) (fun _ hk => hk.2) (.int .i64 ((rd_T40 t165 x12_1).f4))) (fun _ hk => hk.2) (.int .i64 ((rd_T40 t165 x12_1).f5))) (fun _ hk => hk.2) (.int .i64 ((rd_T40 t165 x12_1).f6))) (fun _ hk => hk.2) (.int .i64 ((rd_T40 t165 x12_1).f7))) (fun _ h_ => h_.1))) hb); have n1_ := Aside0.mk (Kd.R_below (by (with_reducible repeat (first | apply Kd.R_alloc | apply Kd.R_drewN | apply Kd.R_drew)); exact (Kd.R_mono (Kd.R_far (p := ⟨gb170, 7, none⟩) (Kd.R_far (p := ⟨gb170, 6, none⟩) (Kd.R_far (p := ⟨gb170, 5, none⟩) (Kd.R_far (p := ⟨gb170, 4, none⟩) (Kd.R_far (p := ⟨gb170, 3, none⟩) (Kd.R_far (p := ⟨gb170, 2, none⟩) (Kd.R_far (p := ⟨gb170, 1, none⟩) (Kd.R_far (p := ⟨gb170, 0, none⟩) (Kd.R_mono HO_11.out (fun k_ hk => (⟨hk, hk.2⟩ : _ ∧ k_ ≠ gb170))) (fun _ hk => hk.2) (.int .i64 ((rd_T40 t165 x12_1).f0))) (fun _ hk => hk.2) (.int .i64 ((rd_T40 t165 x12_1).f1))) (fun _ hk => hk.2) (.int .i64 ((rd_T40 t165 x12_1).f2))) (fun _ hk => hk.2) (.int .i64 ((rd_T40 t165 x12_1).f3))) (fun _ hk => hk.2) (.int .i64 ((rd_T40 t165 x12_1).f4))) (fun _ hk => hk.2) (.int .i64 ((rd_T40 t165 x12_1).f5))) (fun _ hk => hk.2) (.int .i64 ((rd_T40 t165 x12_1).f6))) (fun _ hk => hk.2) (.int .i64 ((rd_T40 t165 x12_1).f7))) (fun _ h_ => h_.1))) hb); have n2_ := Aside0.mk (blk_below (g := gb170) (o := .cells #[.int .i64 ((rd_T40 t165 x12_1).f0), .int .i64 ((rd_T40 t165 x12_1).f1), .int .i64 ((rd_T40 t165 x12_1).f2), .int .i64 ((rd_T40 t165 x12_1).f3), .int .i64 ((rd_T40 t165 x12_1).f4), .int .i64 ((rd_T40 t165 x12_1).f5), .int .i64 ((rd_T40 t165 x12_1).f6), .int .i64 ((rd_T40 t165 x12_1).f7)] 40 (0, 0)) (by (with_reducible repeat (first | refine blk_drewN ?_ _ | refine blk_drew ?_ | refine blk_alloc ?_ _)); refine blk_put (cs := #[.int .i64 ((rd_T40 t165 x12_1).f0), .int .i64 ((rd_T40 t165 x12_1).f1), .int .i64 ((rd_T40 t165 x12_1).f2), .int .i64 ((rd_T40 t165 x12_1).f3), .int .i64 ((rd_T40 t165 x12_1).f4), .int .i64 ((rd_T40 t165 x12_1).f5), .int .i64 ((rd_T40 t165 x12_1).f6), .int .i64 0]) ?_ 7 _ rfl; (with_reducible repeat (first | refine blk_drewN ?_ _ | refine blk_drew ?_ | refine blk_alloc ?_ _)); refine blk_put (cs := #[.int .i64 ((rd_T40 t165 x12_1).f0), .int .i64 ((rd_T40 t165 x12_1).f1), .int .i64 ((rd_T40 t165 x12_1).f2), .int .i64 ((rd_T40 t165 x12_1).f3), .int .i64 ((rd_T40 t165 x12_1).f4), .int .i64 ((rd_T40 t165 x12_1).f5), .int .i64 0, .int .i64 0]) ?_ 6 _ rfl; (with_reducible repeat (first | refine blk_drewN ?_ _ | refine blk_drew ?_ | refine blk_alloc ?_ _)); refine blk_put (cs := #[.int .i64 ((rd_T40 t165 x12_1).f0), .int .i64 ((rd_T40 t165 x12_1).f1), .int .i64 ((rd_T40 t165 x12_1).f2), .int .i64 ((rd_T40 t165 x12_1).f3), .int .i64 ((rd_T40 t165 x12_1).f4), .int .i64 0, .int .i64 0, .int .i64 0]) ?_ 5 _ rfl; (with_reducible repeat (first | refine blk_drewN ?_ _ | refine blk_drew ?_ | refine blk_alloc ?_ _)); refine blk_put (cs := #[.int .i64 ((rd_T40 t165 x12_1).f0), .int .i64 ((rd_T40 t165 x12_1).f1), .int .i64 ((rd_T40 t165 x12_1).f2), .int .i64 ((rd_T40 t165 x12_1).f3), .int .i64 0, .int .i64 0, .int .i64 0, .int .i64 0]) ?_ 4 _ rfl; (with_reducible repeat (first | refine blk_drewN ?_ _ | refine blk_drew ?_ | refine blk_alloc ?_ _)); refine blk_put (cs := #[.int .i64 ((rd_T40 t165 x12_1).f0), .int .i64 ((rd_T40 t165 x12_1).f1), .int .i64 ((rd_T40 t165 x12_1).f2), .int .i64 0, .int .i64 0, .int .i64 0, .int .i64 0, .int .i64 0]) ?_ 3 _ rfl; (with_reducible repeat (first | refine blk_drewN ?_ _ | refine blk_drew ?_ | refine blk_alloc ?_ _)); refine blk_put (cs := #[.int .i64 ((rd_T40 t165 x12_1).f0), .int .i64 ((rd_T40 t165 x12_1).f1), .int .i64 0, .int .i64 0, .int .i64 0, .int .i64 0, .int .i64 0, .int .i64 0]) ?_ 2 _ rfl; (with_reducible repeat (first | refine blk_drewN ?_ _ | refine blk_drew ?_ | refine blk_alloc ?_ _)); refine blk_put (cs := #[.int .i64 ((rd_T40 t165 x12_1).f0), .int .i64 0, .int .i64 0, .int .i64 0, .int .i64 0, .int .i64 0, .int .i64 0, .int .i64 0]) ?_ 1 _ rfl; (with_reducible repeat (first | refine blk_drewN ?_ _ | refine blk_drew ?_ | refine blk_alloc ?_ _)); refine blk_put (cs := #[.int .i64 0, .int .i64 0, .int .i64 0, .int .i64 0, .int .i64 0, .int .i64 0, .int .i64 0, .int .i64 0]) ?_ 0 _ rfl; (with_reducible repeat (first | refine blk_drewN ?_ _ | refine blk_drew ?_ | refine blk_alloc ?_ _)); exact BK170.out) hb); have n3_ := Aside0.mk (below_step (by repeat (first | (with_reducible first | exact HB.out | apply below_alloc | apply pw_below_drewN | apply below_drew1 | refine below_set ?_ GE170.out) | exact HB.out)) hb); clear HO_0; clear HO_11; clear BK170; clear HB; have HO_0 := n0_; have HO_11 := n1_; have BK170 := n2_; have HB := n3_; clear n0_ n1_ n2_ n3_; (try clear hb); (try clear hb2); (try clear hk); (try clear hi); have hcz38_0 : w37.cell? ⟨gb170, 0, none⟩ = some (.int .i64 ((rd_T40 t165 x12_1).f0)) := (blk_cell BK170.out 0).trans rfl; have hcz38_1 : w37.cell? ⟨gb170, 1, none⟩ = some (.int .i64 ((rd_T40 t165 x12_1).f1)) := (blk_cell BK170.out 1).trans rfl; have hcz38_2 : w37.cell? ⟨gb170, 2, none⟩ = some (.int .i64 ((rd_T40 t165 x12_1).f2)) := (blk_cell BK170.out 2).trans rfl; have hcz38_3 : w37.cell? ⟨gb170, 3, none⟩ = some (.int .i64 ((rd_T40 t165 x12_1).f3)) := (blk_cell BK170.out 3).trans rfl; have hcz38_4 : w37.cell? ⟨gb170, 4, none⟩ = some (.int .i64 ((rd_T40 t165 x12_1).f4)) := (blk_cell BK170.out 4).trans rfl; have hcz38_5 : w37.cell? ⟨gb170, 5, none⟩ = some (.int .i64 ((rd_T40 t165 x12_1).f5)) := (blk_cell BK170.out 5).trans rfl; have hcz38_6 : w37.cell? ⟨gb170, 6, none⟩ = some (.int .i64 ((rd_T40 t165 x12_1).f6)) := (blk_cell BK170.out 6).trans rfl; have hcz38_7 : w37.cell? ⟨gb170, 7, none⟩ = some (.int .i64 ((rd_T40 t165 x12_1).f7)) := (blk_cell BK170.out 7).trans rfl; have hfz38_0 := blk_frozen BK170.out 0; have hfz38_1 := blk_frozen BK170.out 1; have hfz38_2 := blk_frozen BK170.out 2; have hfz38_3 := blk_frozen BK170.out 3; have hfz38_4 := blk_frozen BK170.out 4; have hfz38_5 := blk_frozen BK170.out 5; have hfz38_6 := blk_frozen BK170.out 6; have hfz38_7 := blk_frozen BK170.out 7))
                      go_meet
                      case rel => exact ⟨_, (((Int.tmod (ji35) 2) == 1)), (by first | rfl | (simp; done) | (simp only [← hji35] <;> (first | rfl | simp)) | (simp [*]; done)), H', ⟨by have := HK1.out; first | omega | exact Nat.le_refl _⟩, ⟨by (with_reducible repeat (first | apply Kd.R_alloc | apply Kd.R_drewN | apply Kd.R_drew)); exact HO_0.out⟩, ⟨by (with_reducible repeat (first | apply Kd.R_alloc | apply Kd.R_drewN | apply Kd.R_drew)); exact HO_11.out⟩, ⟨by (with_reducible repeat (first | refine blk_drewN ?_ _ | refine blk_drew ?_ | refine blk_alloc ?_ _)); exact BK170.out⟩, ⟨by repeat (first | (with_reducible first | exact HB.out | apply below_alloc | apply pw_below_drewN | apply below_drew1 | refine below_set ?_ GE170.out) | exact HB.out)⟩⟩
                    · rw [if_neg c34] at H
                      exact absurd H (by simp)
                  · rw [if_neg c33] at H
                    have c33b0 : (((rd_T40 t165 x12_1).f1) == a1) = false := beq_eq_false_iff_ne.mpr c33
                    have c33b1 : (((rd_T40 t165 x12_1).f1) != a1) = true := bne_iff_ne.mpr c33
                    have H' := Aside0.mk H
                    clear H
                    have hcz39_0 : w14.cell? ⟨gb170, 0, none⟩ = some (.int .i64 0) := (blk_cell BK170.out 0).trans rfl
                    have hcz39_1 : w14.cell? ⟨gb170, 1, none⟩ = some (.int .i64 0) := (blk_cell BK170.out 1).trans rfl
                    have hcz39_2 : w14.cell? ⟨gb170, 2, none⟩ = some (.int .i64 0) := (blk_cell BK170.out 2).trans rfl
                    have hcz39_3 : w14.cell? ⟨gb170, 3, none⟩ = some (.int .i64 0) := (blk_cell BK170.out 3).trans rfl
                    have hcz39_4 : w14.cell? ⟨gb170, 4, none⟩ = some (.int .i64 0) := (blk_cell BK170.out 4).trans rfl
                    have hcz39_5 : w14.cell? ⟨gb170, 5, none⟩ = some (.int .i64 0) := (blk_cell BK170.out 5).trans rfl
                    have hcz39_6 : w14.cell? ⟨gb170, 6, none⟩ = some (.int .i64 0) := (blk_cell BK170.out 6).trans rfl
                    have hcz39_7 : w14.cell? ⟨gb170, 7, none⟩ = some (.int .i64 0) := (blk_cell BK170.out 7).trans rfl
                    have hfz39_0 := blk_frozen BK170.out 0
                    have hfz39_1 := blk_frozen BK170.out 1
                    have hfz39_2 := blk_frozen BK170.out 2
                    have hfz39_3 := blk_frozen BK170.out 3
                    have hfz39_4 := blk_frozen BK170.out 4
                    have hfz39_5 := blk_frozen BK170.out 5
                    have hfz39_6 := blk_frozen BK170.out 6
                    have hfz39_7 := blk_frozen BK170.out 7
                    go_wp2_with (first | (go_at_call 24; (with_reducible refine (rights_Valid.calls k1 ((rd_T40 t165 x12_1).f0) ((rd_T40 t165 x12_1).f1) ((rd_T40 t165 x12_1).f2) ((rd_T40 t165 x12_1).f3) ((rd_T40 t165 x12_1).f4) ((rd_T40 t165 x12_1).f5) ((rd_T40 t165 x12_1).f6) ((rd_T40 t165 x12_1).f7) true _ A31.out).mono ?_); rintro e w40 ⟨rfl, hb⟩; have n0_ := Aside0.mk (Kd.R_below (by (with_reducible repeat (first | apply Kd.R_alloc | apply Kd.R_drewN | apply Kd.R_drew)); exact (Kd.R_mono (Kd.R_far (p := ⟨gb170, 7, none⟩) (Kd.R_far (p := ⟨gb170, 6, none⟩) (Kd.R_far (p := ⟨gb170, 5, none⟩) (Kd.R_far (p := ⟨gb170, 4, none⟩) (Kd.R_far (p := ⟨gb170, 3, none⟩) (Kd.R_far (p := ⟨gb170, 2, none⟩) (Kd.R_far (p := ⟨gb170, 1, none⟩) (Kd.R_far (p := ⟨gb170, 0, none⟩) (Kd.R_mono HO_0.out (fun k_ hk => (⟨hk, hk.2⟩ : _ ∧ k_ ≠ gb170))) (fun _ hk => hk.2) (.int .i64 ((rd_T40 t165 x12_1).f0))) (fun _ hk => hk.2) (.int .i64 ((rd_T40 t165 x12_1).f1))) (fun _ hk => hk.2) (.int .i64 ((rd_T40 t165 x12_1).f2))) (fun _ hk => hk.2) (.int .i64 ((rd_T40 t165 x12_1).f3))) (fun _ hk => hk.2) (.int .i64 ((rd_T40 t165 x12_1).f4))) (fun _ hk => hk.2) (.int .i64 ((rd_T40 t165 x12_1).f5))) (fun _ hk => hk.2) (.int .i64 ((rd_T40 t165 x12_1).f6))) (fun _ hk => hk.2) (.int .i64 ((rd_T40 t165 x12_1).f7))) (fun _ h_ => h_.1))) hb); have n1_ := Aside0.mk (Kd.R_below (by (with_reducible repeat (first | apply Kd.R_alloc | apply Kd.R_drewN | apply Kd.R_drew)); exact (Kd.R_mono (Kd.R_far (p := ⟨gb170, 7, none⟩) (Kd.R_far (p := ⟨gb170, 6, none⟩) (Kd.R_far (p := ⟨gb170, 5, none⟩) (Kd.R_far (p := ⟨gb170, 4, none⟩) (Kd.R_far (p := ⟨gb170, 3, none⟩) (Kd.R_far (p := ⟨gb170, 2, none⟩) (Kd.R_far (p := ⟨gb170, 1, none⟩) (Kd.R_far (p := ⟨gb170, 0, none⟩) (Kd.R_mono HO_11.out (fun k_ hk => (⟨hk, hk.2⟩ : _ ∧ k_ ≠ gb170))) (fun _ hk => hk.2) (.int .i64 ((rd_T40 t165 x12_1).f0))) (fun _ hk => hk.2) (.int .i64 ((rd_T40 t165 x12_1).f1))) (fun _ hk => hk.2) (.int .i64 ((rd_T40 t165 x12_1).f2))) (fun _ hk => hk.2) (.int .i64 ((rd_T40 t165 x12_1).f3))) (fun _ hk => hk.2) (.int .i64 ((rd_T40 t165 x12_1).f4))) (fun _ hk => hk.2) (.int .i64 ((rd_T40 t165 x12_1).f5))) (fun _ hk => hk.2) (.int .i64 ((rd_T40 t165 x12_1).f6))) (fun _ hk => hk.2) (.int .i64 ((rd_T40 t165 x12_1).f7))) (fun _ h_ => h_.1))) hb); have n2_ := Aside0.mk (blk_below (g := gb170) (o := .cells #[.int .i64 ((rd_T40 t165 x12_1).f0), .int .i64 ((rd_T40 t165 x12_1).f1), .int .i64 ((rd_T40 t165 x12_1).f2), .int .i64 ((rd_T40 t165 x12_1).f3), .int .i64 ((rd_T40 t165 x12_1).f4), .int .i64 ((rd_T40 t165 x12_1).f5), .int .i64 ((rd_T40 t165 x12_1).f6), .int .i64 ((rd_T40 t165 x12_1).f7)] 40 (0, 0)) (by (with_reducible repeat (first | refine blk_drewN ?_ _ | refine blk_drew ?_ | refine blk_alloc ?_ _)); refine blk_put (cs := #[.int .i64 ((rd_T40 t165 x12_1).f0), .int .i64 ((rd_T40 t165 x12_1).f1), .int .i64 ((rd_T40 t165 x12_1).f2), .int .i64 ((rd_T40 t165 x12_1).f3), .int .i64 ((rd_T40 t165 x12_1).f4), .int .i64 ((rd_T40 t165 x12_1).f5), .int .i64 ((rd_T40 t165 x12_1).f6), .int .i64 0]) ?_ 7 _ rfl; (with_reducible repeat (first | refine blk_drewN ?_ _ | refine blk_drew ?_ | refine blk_alloc ?_ _)); refine blk_put (cs := #[.int .i64 ((rd_T40 t165 x12_1).f0), .int .i64 ((rd_T40 t165 x12_1).f1), .int .i64 ((rd_T40 t165 x12_1).f2), .int .i64 ((rd_T40 t165 x12_1).f3), .int .i64 ((rd_T40 t165 x12_1).f4), .int .i64 ((rd_T40 t165 x12_1).f5), .int .i64 0, .int .i64 0]) ?_ 6 _ rfl; (with_reducible repeat (first | refine blk_drewN ?_ _ | refine blk_drew ?_ | refine blk_alloc ?_ _)); refine blk_put (cs := #[.int .i64 ((rd_T40 t165 x12_1).f0), .int .i64 ((rd_T40 t165 x12_1).f1), .int .i64 ((rd_T40 t165 x12_1).f2), .int .i64 ((rd_T40 t165 x12_1).f3), .int .i64 ((rd_T40 t165 x12_1).f4), .int .i64 0, .int .i64 0, .int .i64 0]) ?_ 5 _ rfl; (with_reducible repeat (first | refine blk_drewN ?_ _ | refine blk_drew ?_ | refine blk_alloc ?_ _)); refine blk_put (cs := #[.int .i64 ((rd_T40 t165 x12_1).f0), .int .i64 ((rd_T40 t165 x12_1).f1), .int .i64 ((rd_T40 t165 x12_1).f2), .int .i64 ((rd_T40 t165 x12_1).f3), .int .i64 0, .int .i64 0, .int .i64 0, .int .i64 0]) ?_ 4 _ rfl; (with_reducible repeat (first | refine blk_drewN ?_ _ | refine blk_drew ?_ | refine blk_alloc ?_ _)); refine blk_put (cs := #[.int .i64 ((rd_T40 t165 x12_1).f0), .int .i64 ((rd_T40 t165 x12_1).f1), .int .i64 ((rd_T40 t165 x12_1).f2), .int .i64 0, .int .i64 0, .int .i64 0, .int .i64 0, .int .i64 0]) ?_ 3 _ rfl; (with_reducible repeat (first | refine blk_drewN ?_ _ | refine blk_drew ?_ | refine blk_alloc ?_ _)); refine blk_put (cs := #[.int .i64 ((rd_T40 t165 x12_1).f0), .int .i64 ((rd_T40 t165 x12_1).f1), .int .i64 0, .int .i64 0, .int .i64 0, .int .i64 0, .int .i64 0, .int .i64 0]) ?_ 2 _ rfl; (with_reducible repeat (first | refine blk_drewN ?_ _ | refine blk_drew ?_ | refine blk_alloc ?_ _)); refine blk_put (cs := #[.int .i64 ((rd_T40 t165 x12_1).f0), .int .i64 0, .int .i64 0, .int .i64 0, .int .i64 0, .int .i64 0, .int .i64 0, .int .i64 0]) ?_ 1 _ rfl; (with_reducible repeat (first | refine blk_drewN ?_ _ | refine blk_drew ?_ | refine blk_alloc ?_ _)); refine blk_put (cs := #[.int .i64 0, .int .i64 0, .int .i64 0, .int .i64 0, .int .i64 0, .int .i64 0, .int .i64 0, .int .i64 0]) ?_ 0 _ rfl; (with_reducible repeat (first | refine blk_drewN ?_ _ | refine blk_drew ?_ | refine blk_alloc ?_ _)); exact BK170.out) hb); have n3_ := Aside0.mk (below_step (by repeat (first | (with_reducible first | exact HB.out | apply below_alloc | apply pw_below_drewN | apply below_drew1 | refine below_set ?_ GE170.out) | exact HB.out)) hb); clear HO_0; clear HO_11; clear BK170; clear HB; have HO_0 := n0_; have HO_11 := n1_; have BK170 := n2_; have HB := n3_; clear n0_ n1_ n2_ n3_; (try clear hb); (try clear hb2); (try clear hk); (try clear hi); have hcz41_0 : w40.cell? ⟨gb170, 0, none⟩ = some (.int .i64 ((rd_T40 t165 x12_1).f0)) := (blk_cell BK170.out 0).trans rfl; have hcz41_1 : w40.cell? ⟨gb170, 1, none⟩ = some (.int .i64 ((rd_T40 t165 x12_1).f1)) := (blk_cell BK170.out 1).trans rfl; have hcz41_2 : w40.cell? ⟨gb170, 2, none⟩ = some (.int .i64 ((rd_T40 t165 x12_1).f2)) := (blk_cell BK170.out 2).trans rfl; have hcz41_3 : w40.cell? ⟨gb170, 3, none⟩ = some (.int .i64 ((rd_T40 t165 x12_1).f3)) := (blk_cell BK170.out 3).trans rfl; have hcz41_4 : w40.cell? ⟨gb170, 4, none⟩ = some (.int .i64 ((rd_T40 t165 x12_1).f4)) := (blk_cell BK170.out 4).trans rfl; have hcz41_5 : w40.cell? ⟨gb170, 5, none⟩ = some (.int .i64 ((rd_T40 t165 x12_1).f5)) := (blk_cell BK170.out 5).trans rfl; have hcz41_6 : w40.cell? ⟨gb170, 6, none⟩ = some (.int .i64 ((rd_T40 t165 x12_1).f6)) := (blk_cell BK170.out 6).trans rfl; have hcz41_7 : w40.cell? ⟨gb170, 7, none⟩ = some (.int .i64 ((rd_T40 t165 x12_1).f7)) := (blk_cell BK170.out 7).trans rfl; have hfz41_0 := blk_frozen BK170.out 0; have hfz41_1 := blk_frozen BK170.out 1; have hfz41_2 := blk_frozen BK170.out 2; have hfz41_3 := blk_frozen BK170.out 3; have hfz41_4 := blk_frozen BK170.out 4; have hfz41_5 := blk_frozen BK170.out 5; have hfz41_6 := blk_frozen BK170.out 6; have hfz41_7 := blk_frozen BK170.out 7))
                    go_meet
                    case rel => exact ⟨_, (false), (by first | rfl | (simp; done) | (simp [*]; done)), H', ⟨by have := HK1.out; first | omega | exact Nat.le_refl _⟩, ⟨by (with_reducible repeat (first | apply Kd.R_alloc | apply Kd.R_drewN | apply Kd.R_drew)); exact HO_0.out⟩, ⟨by (with_reducible repeat (first | apply Kd.R_alloc | apply Kd.R_drewN | apply Kd.R_drew)); exact HO_11.out⟩, ⟨by (with_reducible repeat (first | refine blk_drewN ?_ _ | refine blk_drew ?_ | refine blk_alloc ?_ _)); exact BK170.out⟩, ⟨by repeat (first | (with_reducible first | exact HB.out | apply below_alloc | apply pw_below_drewN | apply below_drew1 | refine below_set ?_ GE170.out) | exact HB.out)⟩⟩
                · replace c32 := Bool.eq_false_iff.mpr c32
                  subst c32
                  have H1 : (onairlaw06_RightsLastDecides.j1 k1 t165 a1 t168 a3 t164 x10_1 x11_1 x12_1 false ((rd_T40 t165 x12_1).f0) ((rd_T40 t165 x12_1).f1) ((rd_T40 t165 x12_1).f2) ((rd_T40 t165 x12_1).f3) ((rd_T40 t165 x12_1).f4) ((rd_T40 t165 x12_1).f5) ((rd_T40 t165 x12_1).f6) ((rd_T40 t165 x12_1).f7)) = some r := by rw [if_neg (show ¬ (false = true) by decide)] at H; exact H
                  clear H
                  have H := H1
                  clear H1
                  have H' := Aside0.mk H
                  clear H
                  have hcz42_0 : w14.cell? ⟨gb170, 0, none⟩ = some (.int .i64 0) := (blk_cell BK170.out 0).trans rfl
                  have hcz42_1 : w14.cell? ⟨gb170, 1, none⟩ = some (.int .i64 0) := (blk_cell BK170.out 1).trans rfl
                  have hcz42_2 : w14.cell? ⟨gb170, 2, none⟩ = some (.int .i64 0) := (blk_cell BK170.out 2).trans rfl
                  have hcz42_3 : w14.cell? ⟨gb170, 3, none⟩ = some (.int .i64 0) := (blk_cell BK170.out 3).trans rfl
                  have hcz42_4 : w14.cell? ⟨gb170, 4, none⟩ = some (.int .i64 0) := (blk_cell BK170.out 4).trans rfl
                  have hcz42_5 : w14.cell? ⟨gb170, 5, none⟩ = some (.int .i64 0) := (blk_cell BK170.out 5).trans rfl
                  have hcz42_6 : w14.cell? ⟨gb170, 6, none⟩ = some (.int .i64 0) := (blk_cell BK170.out 6).trans rfl
                  have hcz42_7 : w14.cell? ⟨gb170, 7, none⟩ = some (.int .i64 0) := (blk_cell BK170.out 7).trans rfl
                  have hfz42_0 := blk_frozen BK170.out 0
                  have hfz42_1 := blk_frozen BK170.out 1
                  have hfz42_2 := blk_frozen BK170.out 2
                  have hfz42_3 := blk_frozen BK170.out 3
                  have hfz42_4 := blk_frozen BK170.out 4
                  have hfz42_5 := blk_frozen BK170.out 5
                  have hfz42_6 := blk_frozen BK170.out 6
                  have hfz42_7 := blk_frozen BK170.out 7
                  go_wp2_with (first | (go_at_call 24; (with_reducible refine (rights_Valid.calls k1 ((rd_T40 t165 x12_1).f0) ((rd_T40 t165 x12_1).f1) ((rd_T40 t165 x12_1).f2) ((rd_T40 t165 x12_1).f3) ((rd_T40 t165 x12_1).f4) ((rd_T40 t165 x12_1).f5) ((rd_T40 t165 x12_1).f6) ((rd_T40 t165 x12_1).f7) false _ A31.out).mono ?_); rintro e w43 ⟨rfl, hb⟩; have n0_ := Aside0.mk (Kd.R_below (by (with_reducible repeat (first | apply Kd.R_alloc | apply Kd.R_drewN | apply Kd.R_drew)); exact (Kd.R_mono (Kd.R_far (p := ⟨gb170, 7, none⟩) (Kd.R_far (p := ⟨gb170, 6, none⟩) (Kd.R_far (p := ⟨gb170, 5, none⟩) (Kd.R_far (p := ⟨gb170, 4, none⟩) (Kd.R_far (p := ⟨gb170, 3, none⟩) (Kd.R_far (p := ⟨gb170, 2, none⟩) (Kd.R_far (p := ⟨gb170, 1, none⟩) (Kd.R_far (p := ⟨gb170, 0, none⟩) (Kd.R_mono HO_0.out (fun k_ hk => (⟨hk, hk.2⟩ : _ ∧ k_ ≠ gb170))) (fun _ hk => hk.2) (.int .i64 ((rd_T40 t165 x12_1).f0))) (fun _ hk => hk.2) (.int .i64 ((rd_T40 t165 x12_1).f1))) (fun _ hk => hk.2) (.int .i64 ((rd_T40 t165 x12_1).f2))) (fun _ hk => hk.2) (.int .i64 ((rd_T40 t165 x12_1).f3))) (fun _ hk => hk.2) (.int .i64 ((rd_T40 t165 x12_1).f4))) (fun _ hk => hk.2) (.int .i64 ((rd_T40 t165 x12_1).f5))) (fun _ hk => hk.2) (.int .i64 ((rd_T40 t165 x12_1).f6))) (fun _ hk => hk.2) (.int .i64 ((rd_T40 t165 x12_1).f7))) (fun _ h_ => h_.1))) hb); have n1_ := Aside0.mk (Kd.R_below (by (with_reducible repeat (first | apply Kd.R_alloc | apply Kd.R_drewN | apply Kd.R_drew)); exact (Kd.R_mono (Kd.R_far (p := ⟨gb170, 7, none⟩) (Kd.R_far (p := ⟨gb170, 6, none⟩) (Kd.R_far (p := ⟨gb170, 5, none⟩) (Kd.R_far (p := ⟨gb170, 4, none⟩) (Kd.R_far (p := ⟨gb170, 3, none⟩) (Kd.R_far (p := ⟨gb170, 2, none⟩) (Kd.R_far (p := ⟨gb170, 1, none⟩) (Kd.R_far (p := ⟨gb170, 0, none⟩) (Kd.R_mono HO_11.out (fun k_ hk => (⟨hk, hk.2⟩ : _ ∧ k_ ≠ gb170))) (fun _ hk => hk.2) (.int .i64 ((rd_T40 t165 x12_1).f0))) (fun _ hk => hk.2) (.int .i64 ((rd_T40 t165 x12_1).f1))) (fun _ hk => hk.2) (.int .i64 ((rd_T40 t165 x12_1).f2))) (fun _ hk => hk.2) (.int .i64 ((rd_T40 t165 x12_1).f3))) (fun _ hk => hk.2) (.int .i64 ((rd_T40 t165 x12_1).f4))) (fun _ hk => hk.2) (.int .i64 ((rd_T40 t165 x12_1).f5))) (fun _ hk => hk.2) (.int .i64 ((rd_T40 t165 x12_1).f6))) (fun _ hk => hk.2) (.int .i64 ((rd_T40 t165 x12_1).f7))) (fun _ h_ => h_.1))) hb); have n2_ := Aside0.mk (blk_below (g := gb170) (o := .cells #[.int .i64 ((rd_T40 t165 x12_1).f0), .int .i64 ((rd_T40 t165 x12_1).f1), .int .i64 ((rd_T40 t165 x12_1).f2), .int .i64 ((rd_T40 t165 x12_1).f3), .int .i64 ((rd_T40 t165 x12_1).f4), .int .i64 ((rd_T40 t165 x12_1).f5), .int .i64 ((rd_T40 t165 x12_1).f6), .int .i64 ((rd_T40 t165 x12_1).f7)] 40 (0, 0)) (by (with_reducible repeat (first | refine blk_drewN ?_ _ | refine blk_drew ?_ | refine blk_alloc ?_ _)); refine blk_put (cs := #[.int .i64 ((rd_T40 t165 x12_1).f0), .int .i64 ((rd_T40 t165 x12_1).f1), .int .i64 ((rd_T40 t165 x12_1).f2), .int .i64 ((rd_T40 t165 x12_1).f3), .int .i64 ((rd_T40 t165 x12_1).f4), .int .i64 ((rd_T40 t165 x12_1).f5), .int .i64 ((rd_T40 t165 x12_1).f6), .int .i64 0]) ?_ 7 _ rfl; (with_reducible repeat (first | refine blk_drewN ?_ _ | refine blk_drew ?_ | refine blk_alloc ?_ _)); refine blk_put (cs := #[.int .i64 ((rd_T40 t165 x12_1).f0), .int .i64 ((rd_T40 t165 x12_1).f1), .int .i64 ((rd_T40 t165 x12_1).f2), .int .i64 ((rd_T40 t165 x12_1).f3), .int .i64 ((rd_T40 t165 x12_1).f4), .int .i64 ((rd_T40 t165 x12_1).f5), .int .i64 0, .int .i64 0]) ?_ 6 _ rfl; (with_reducible repeat (first | refine blk_drewN ?_ _ | refine blk_drew ?_ | refine blk_alloc ?_ _)); refine blk_put (cs := #[.int .i64 ((rd_T40 t165 x12_1).f0), .int .i64 ((rd_T40 t165 x12_1).f1), .int .i64 ((rd_T40 t165 x12_1).f2), .int .i64 ((rd_T40 t165 x12_1).f3), .int .i64 ((rd_T40 t165 x12_1).f4), .int .i64 0, .int .i64 0, .int .i64 0]) ?_ 5 _ rfl; (with_reducible repeat (first | refine blk_drewN ?_ _ | refine blk_drew ?_ | refine blk_alloc ?_ _)); refine blk_put (cs := #[.int .i64 ((rd_T40 t165 x12_1).f0), .int .i64 ((rd_T40 t165 x12_1).f1), .int .i64 ((rd_T40 t165 x12_1).f2), .int .i64 ((rd_T40 t165 x12_1).f3), .int .i64 0, .int .i64 0, .int .i64 0, .int .i64 0]) ?_ 4 _ rfl; (with_reducible repeat (first | refine blk_drewN ?_ _ | refine blk_drew ?_ | refine blk_alloc ?_ _)); refine blk_put (cs := #[.int .i64 ((rd_T40 t165 x12_1).f0), .int .i64 ((rd_T40 t165 x12_1).f1), .int .i64 ((rd_T40 t165 x12_1).f2), .int .i64 0, .int .i64 0, .int .i64 0, .int .i64 0, .int .i64 0]) ?_ 3 _ rfl; (with_reducible repeat (first | refine blk_drewN ?_ _ | refine blk_drew ?_ | refine blk_alloc ?_ _)); refine blk_put (cs := #[.int .i64 ((rd_T40 t165 x12_1).f0), .int .i64 ((rd_T40 t165 x12_1).f1), .int .i64 0, .int .i64 0, .int .i64 0, .int .i64 0, .int .i64 0, .int .i64 0]) ?_ 2 _ rfl; (with_reducible repeat (first | refine blk_drewN ?_ _ | refine blk_drew ?_ | refine blk_alloc ?_ _)); refine blk_put (cs := #[.int .i64 ((rd_T40 t165 x12_1).f0), .int .i64 0, .int .i64 0, .int .i64 0, .int .i64 0, .int .i64 0, .int .i64 0, .int .i64 0]) ?_ 1 _ rfl; (with_reducible repeat (first | refine blk_drewN ?_ _ | refine blk_drew ?_ | refine blk_alloc ?_ _)); refine blk_put (cs := #[.int .i64 0, .int .i64 0, .int .i64 0, .int .i64 0, .int .i64 0, .int .i64 0, .int .i64 0, .int .i64 0]) ?_ 0 _ rfl; (with_reducible repeat (first | refine blk_drewN ?_ _ | refine blk_drew ?_ | refine blk_alloc ?_ _)); exact BK170.out) hb); have n3_ := Aside0.mk (below_step (by repeat (first | (with_reducible first | exact HB.out | apply below_alloc | apply pw_below_drewN | apply below_drew1 | refine below_set ?_ GE170.out) | exact HB.out)) hb); clear HO_0; clear HO_11; clear BK170; clear HB; have HO_0 := n0_; have HO_11 := n1_; have BK170 := n2_; have HB := n3_; clear n0_ n1_ n2_ n3_; (try clear hb); (try clear hb2); (try clear hk); (try clear hi)))
                  go_meet
                  case rel => exact ⟨_, (false), (by first | rfl | (simp; done) | (simp [*]; done)), H', ⟨by have := HK1.out; first | omega | exact Nat.le_refl _⟩, ⟨by (with_reducible repeat (first | apply Kd.R_alloc | apply Kd.R_drewN | apply Kd.R_drew)); exact HO_0.out⟩, ⟨by (with_reducible repeat (first | apply Kd.R_alloc | apply Kd.R_drewN | apply Kd.R_drew)); exact HO_11.out⟩, ⟨by (with_reducible repeat (first | refine blk_drewN ?_ _ | refine blk_drew ?_ | refine blk_alloc ?_ _)); exact BK170.out⟩, ⟨by repeat (first | (with_reducible first | exact HB.out | apply below_alloc | apply pw_below_drewN | apply below_drew1 | refine below_set ?_ GE170.out) | exact HB.out)⟩⟩
              · rw [if_neg c30] at H
                have c30b0 : (((rd_T40 t165 x12_1).f0) == 2) = false := beq_eq_false_iff_ne.mpr c30
                have c30b1 : (((rd_T40 t165 x12_1).f0) != 2) = true := bne_iff_ne.mpr c30
                have H' := Aside0.mk H
                clear H
                have hcz44_0 : w14.cell? ⟨gb170, 0, none⟩ = some (.int .i64 0) := (blk_cell BK170.out 0).trans rfl
                have hcz44_1 : w14.cell? ⟨gb170, 1, none⟩ = some (.int .i64 0) := (blk_cell BK170.out 1).trans rfl
                have hcz44_2 : w14.cell? ⟨gb170, 2, none⟩ = some (.int .i64 0) := (blk_cell BK170.out 2).trans rfl
                have hcz44_3 : w14.cell? ⟨gb170, 3, none⟩ = some (.int .i64 0) := (blk_cell BK170.out 3).trans rfl
                have hcz44_4 : w14.cell? ⟨gb170, 4, none⟩ = some (.int .i64 0) := (blk_cell BK170.out 4).trans rfl
                have hcz44_5 : w14.cell? ⟨gb170, 5, none⟩ = some (.int .i64 0) := (blk_cell BK170.out 5).trans rfl
                have hcz44_6 : w14.cell? ⟨gb170, 6, none⟩ = some (.int .i64 0) := (blk_cell BK170.out 6).trans rfl
                have hcz44_7 : w14.cell? ⟨gb170, 7, none⟩ = some (.int .i64 0) := (blk_cell BK170.out 7).trans rfl
                have hfz44_0 := blk_frozen BK170.out 0
                have hfz44_1 := blk_frozen BK170.out 1
                have hfz44_2 := blk_frozen BK170.out 2
                have hfz44_3 := blk_frozen BK170.out 3
                have hfz44_4 := blk_frozen BK170.out 4
                have hfz44_5 := blk_frozen BK170.out 5
                have hfz44_6 := blk_frozen BK170.out 6
                have hfz44_7 := blk_frozen BK170.out 7
                go_wp2
                go_meet
                case rel => exact ⟨_, (false), (by first | rfl | (simp; done) | (simp [*]; done)), H', ⟨by have := HK1.out; first | omega | exact Nat.le_refl _⟩, ⟨by (with_reducible repeat (first | apply Kd.R_alloc | apply Kd.R_drewN | apply Kd.R_drew)); exact Kd.R_mono (Kd.R_far (p := ⟨gb170, 7, none⟩) (Kd.R_far (p := ⟨gb170, 6, none⟩) (Kd.R_far (p := ⟨gb170, 5, none⟩) (Kd.R_far (p := ⟨gb170, 4, none⟩) (Kd.R_far (p := ⟨gb170, 3, none⟩) (Kd.R_far (p := ⟨gb170, 2, none⟩) (Kd.R_far (p := ⟨gb170, 1, none⟩) (Kd.R_far (p := ⟨gb170, 0, none⟩) (Kd.R_mono HO_0.out (fun k_ hk => (⟨hk, hk.2⟩ : _ ∧ k_ ≠ gb170))) (fun _ hk => hk.2) (.int .i64 ((rd_T40 t165 x12_1).f0))) (fun _ hk => hk.2) (.int .i64 ((rd_T40 t165 x12_1).f1))) (fun _ hk => hk.2) (.int .i64 ((rd_T40 t165 x12_1).f2))) (fun _ hk => hk.2) (.int .i64 ((rd_T40 t165 x12_1).f3))) (fun _ hk => hk.2) (.int .i64 ((rd_T40 t165 x12_1).f4))) (fun _ hk => hk.2) (.int .i64 ((rd_T40 t165 x12_1).f5))) (fun _ hk => hk.2) (.int .i64 ((rd_T40 t165 x12_1).f6))) (fun _ hk => hk.2) (.int .i64 ((rd_T40 t165 x12_1).f7))) (fun _ hk => ⟨hk.1.1, hk.1.2⟩)⟩, ⟨by (with_reducible repeat (first | apply Kd.R_alloc | apply Kd.R_drewN | apply Kd.R_drew)); exact Kd.R_mono (Kd.R_far (p := ⟨gb170, 7, none⟩) (Kd.R_far (p := ⟨gb170, 6, none⟩) (Kd.R_far (p := ⟨gb170, 5, none⟩) (Kd.R_far (p := ⟨gb170, 4, none⟩) (Kd.R_far (p := ⟨gb170, 3, none⟩) (Kd.R_far (p := ⟨gb170, 2, none⟩) (Kd.R_far (p := ⟨gb170, 1, none⟩) (Kd.R_far (p := ⟨gb170, 0, none⟩) (Kd.R_mono HO_11.out (fun k_ hk => (⟨hk, hk.2⟩ : _ ∧ k_ ≠ gb170))) (fun _ hk => hk.2) (.int .i64 ((rd_T40 t165 x12_1).f0))) (fun _ hk => hk.2) (.int .i64 ((rd_T40 t165 x12_1).f1))) (fun _ hk => hk.2) (.int .i64 ((rd_T40 t165 x12_1).f2))) (fun _ hk => hk.2) (.int .i64 ((rd_T40 t165 x12_1).f3))) (fun _ hk => hk.2) (.int .i64 ((rd_T40 t165 x12_1).f4))) (fun _ hk => hk.2) (.int .i64 ((rd_T40 t165 x12_1).f5))) (fun _ hk => hk.2) (.int .i64 ((rd_T40 t165 x12_1).f6))) (fun _ hk => hk.2) (.int .i64 ((rd_T40 t165 x12_1).f7))) (fun _ hk => ⟨hk.1.1, hk.1.2⟩)⟩, ⟨by (with_reducible repeat (first | refine blk_drewN ?_ _ | refine blk_drew ?_ | refine blk_alloc ?_ _)); refine blk_put (cs := #[.int .i64 ((rd_T40 t165 x12_1).f0), .int .i64 ((rd_T40 t165 x12_1).f1), .int .i64 ((rd_T40 t165 x12_1).f2), .int .i64 ((rd_T40 t165 x12_1).f3), .int .i64 ((rd_T40 t165 x12_1).f4), .int .i64 ((rd_T40 t165 x12_1).f5), .int .i64 ((rd_T40 t165 x12_1).f6), .int .i64 0]) ?_ 7 _ rfl; (with_reducible repeat (first | refine blk_drewN ?_ _ | refine blk_drew ?_ | refine blk_alloc ?_ _)); refine blk_put (cs := #[.int .i64 ((rd_T40 t165 x12_1).f0), .int .i64 ((rd_T40 t165 x12_1).f1), .int .i64 ((rd_T40 t165 x12_1).f2), .int .i64 ((rd_T40 t165 x12_1).f3), .int .i64 ((rd_T40 t165 x12_1).f4), .int .i64 ((rd_T40 t165 x12_1).f5), .int .i64 0, .int .i64 0]) ?_ 6 _ rfl; (with_reducible repeat (first | refine blk_drewN ?_ _ | refine blk_drew ?_ | refine blk_alloc ?_ _)); refine blk_put (cs := #[.int .i64 ((rd_T40 t165 x12_1).f0), .int .i64 ((rd_T40 t165 x12_1).f1), .int .i64 ((rd_T40 t165 x12_1).f2), .int .i64 ((rd_T40 t165 x12_1).f3), .int .i64 ((rd_T40 t165 x12_1).f4), .int .i64 0, .int .i64 0, .int .i64 0]) ?_ 5 _ rfl; (with_reducible repeat (first | refine blk_drewN ?_ _ | refine blk_drew ?_ | refine blk_alloc ?_ _)); refine blk_put (cs := #[.int .i64 ((rd_T40 t165 x12_1).f0), .int .i64 ((rd_T40 t165 x12_1).f1), .int .i64 ((rd_T40 t165 x12_1).f2), .int .i64 ((rd_T40 t165 x12_1).f3), .int .i64 0, .int .i64 0, .int .i64 0, .int .i64 0]) ?_ 4 _ rfl; (with_reducible repeat (first | refine blk_drewN ?_ _ | refine blk_drew ?_ | refine blk_alloc ?_ _)); refine blk_put (cs := #[.int .i64 ((rd_T40 t165 x12_1).f0), .int .i64 ((rd_T40 t165 x12_1).f1), .int .i64 ((rd_T40 t165 x12_1).f2), .int .i64 0, .int .i64 0, .int .i64 0, .int .i64 0, .int .i64 0]) ?_ 3 _ rfl; (with_reducible repeat (first | refine blk_drewN ?_ _ | refine blk_drew ?_ | refine blk_alloc ?_ _)); refine blk_put (cs := #[.int .i64 ((rd_T40 t165 x12_1).f0), .int .i64 ((rd_T40 t165 x12_1).f1), .int .i64 0, .int .i64 0, .int .i64 0, .int .i64 0, .int .i64 0, .int .i64 0]) ?_ 2 _ rfl; (with_reducible repeat (first | refine blk_drewN ?_ _ | refine blk_drew ?_ | refine blk_alloc ?_ _)); refine blk_put (cs := #[.int .i64 ((rd_T40 t165 x12_1).f0), .int .i64 0, .int .i64 0, .int .i64 0, .int .i64 0, .int .i64 0, .int .i64 0, .int .i64 0]) ?_ 1 _ rfl; (with_reducible repeat (first | refine blk_drewN ?_ _ | refine blk_drew ?_ | refine blk_alloc ?_ _)); refine blk_put (cs := #[.int .i64 0, .int .i64 0, .int .i64 0, .int .i64 0, .int .i64 0, .int .i64 0, .int .i64 0, .int .i64 0]) ?_ 0 _ rfl; (with_reducible repeat (first | refine blk_drewN ?_ _ | refine blk_drew ?_ | refine blk_alloc ?_ _)); exact BK170.out⟩, ⟨by repeat (first | (with_reducible first | exact HB.out | apply below_alloc | apply pw_below_drewN | apply below_drew1 | refine below_set ?_ GE170.out) | exact HB.out)⟩⟩
          case rest =>
            clear HC12
            try clear c1
            try clear p1
            try clear q1
            try clear hx1
            try clear c2
            try clear p2
            try clear c3
            try clear c5
            try clear c8
            try clear c9
            try clear c10
            try clear c10b0
            try clear c11
            try clear c11b0
            try clear c12
            try clear c16
            try clear c16b0
            try clear c16b1
            try clear p16
            try clear q16
            try clear hx16
            try clear c18
            try clear c19
            try clear c19b0
            try clear c19b1
            try clear c20
            try clear c20b0
            try clear c20b1
            try clear c30
            try clear c30b0
            try clear c30b1
            try clear c32
            try clear c33
            try clear c33b0
            try clear c33b1
            try clear c34
            try clear c34b0
            try clear c34b1
            try clear hcz15_0
            try clear hcz15_1
            try clear hcz15_2
            try clear hcz15_3
            try clear hcz15_4
            try clear hcz15_5
            try clear hcz15_6
            try clear hcz15_7
            try clear hcz22_0
            try clear hcz22_1
            try clear hcz22_2
            try clear hcz22_3
            try clear hcz22_4
            try clear hcz22_5
            try clear hcz22_6
            try clear hcz22_7
            try clear hcz24_0
            try clear hcz24_1
            try clear hcz24_2
            try clear hcz24_3
            try clear hcz24_4
            try clear hcz24_5
            try clear hcz24_6
            try clear hcz24_7
            try clear hcz25_0
            try clear hcz25_1
            try clear hcz25_2
            try clear hcz25_3
            try clear hcz25_4
            try clear hcz25_5
            try clear hcz25_6
            try clear hcz25_7
            try clear hcz27_0
            try clear hcz27_1
            try clear hcz27_2
            try clear hcz27_3
            try clear hcz27_4
            try clear hcz27_5
            try clear hcz27_6
            try clear hcz27_7
            try clear hcz28_0
            try clear hcz28_1
            try clear hcz28_2
            try clear hcz28_3
            try clear hcz28_4
            try clear hcz28_5
            try clear hcz28_6
            try clear hcz28_7
            try clear hcz36_0
            try clear hcz36_1
            try clear hcz36_2
            try clear hcz36_3
            try clear hcz36_4
            try clear hcz36_5
            try clear hcz36_6
            try clear hcz36_7
            try clear hcz38_0
            try clear hcz38_1
            try clear hcz38_2
            try clear hcz38_3
            try clear hcz38_4
            try clear hcz38_5
            try clear hcz38_6
            try clear hcz38_7
            try clear hcz39_0
            try clear hcz39_1
            try clear hcz39_2
            try clear hcz39_3
            try clear hcz39_4
            try clear hcz39_5
            try clear hcz39_6
            try clear hcz39_7
            try clear hcz41_0
            try clear hcz41_1
            try clear hcz41_2
            try clear hcz41_3
            try clear hcz41_4
            try clear hcz41_5
            try clear hcz41_6
            try clear hcz41_7
            try clear hcz42_0
            try clear hcz42_1
            try clear hcz42_2
            try clear hcz42_3
            try clear hcz42_4
            try clear hcz42_5
            try clear hcz42_6
            try clear hcz42_7
            try clear hcz44_0
            try clear hcz44_1
            try clear hcz44_2
            try clear hcz44_3
            try clear hcz44_4
            try clear hcz44_5
            try clear hcz44_6
            try clear hcz44_7
            try clear hfz15_0
            try clear hfz15_1
            try clear hfz15_2
            try clear hfz15_3
            try clear hfz15_4
            try clear hfz15_5
            try clear hfz15_6
            try clear hfz15_7
            try clear hfz22_0
            try clear hfz22_1
            try clear hfz22_2
            try clear hfz22_3
            try clear hfz22_4
            try clear hfz22_5
            try clear hfz22_6
            try clear hfz22_7
            try clear hfz24_0
            try clear hfz24_1
            try clear hfz24_2
            try clear hfz24_3
            try clear hfz24_4
            try clear hfz24_5
            try clear hfz24_6
            try clear hfz24_7
            try clear hfz25_0
            try clear hfz25_1
            try clear hfz25_2
            try clear hfz25_3
            try clear hfz25_4
            try clear hfz25_5
            try clear hfz25_6
            try clear hfz25_7
            try clear hfz27_0
            try clear hfz27_1
            try clear hfz27_2
            try clear hfz27_3
            try clear hfz27_4
            try clear hfz27_5
            try clear hfz27_6
            try clear hfz27_7
            try clear hfz28_0
            try clear hfz28_1
            try clear hfz28_2
            try clear hfz28_3
            try clear hfz28_4
            try clear hfz28_5
            try clear hfz28_6
            try clear hfz28_7
            try clear hfz36_0
            try clear hfz36_1
            try clear hfz36_2
            try clear hfz36_3
            try clear hfz36_4
            try clear hfz36_5
            try clear hfz36_6
            try clear hfz36_7
            try clear hfz38_0
            try clear hfz38_1
            try clear hfz38_2
            try clear hfz38_3
            try clear hfz38_4
            try clear hfz38_5
            try clear hfz38_6
            try clear hfz38_7
            try clear hfz39_0
            try clear hfz39_1
            try clear hfz39_2
            try clear hfz39_3
            try clear hfz39_4
            try clear hfz39_5
            try clear hfz39_6
            try clear hfz39_7
            try clear hfz41_0
            try clear hfz41_1
            try clear hfz41_2
            try clear hfz41_3
            try clear hfz41_4
            try clear hfz41_5
            try clear hfz41_6
            try clear hfz41_7
            try clear hfz42_0
            try clear hfz42_1
            try clear hfz42_2
            try clear hfz42_3
            try clear hfz42_4
            try clear hfz42_5
            try clear hfz42_6
            try clear hfz42_7
            try clear hfz44_0
            try clear hfz44_1
            try clear hfz44_2
            try clear hfz44_3
            try clear hfz44_4
            try clear hfz44_5
            try clear hfz44_6
            try clear hfz44_7
            try clear hx169_0
            try clear hx169_1
            try clear hx169_2
            try clear hx169_3
            try clear hx169_4
            try clear hx169_5
            try clear hx169_6
            try clear hx169_7
            try clear p169
            try clear p2
            try clear q169
            obtain ⟨kq, x55_11, rfl, HA, HJ11, HO_0, HO_11, BK170, HB⟩ := hcut
            cases kq with
            | zero => exact absurd HA.out (by simp [onairlaw06_RightsLastDecides.j1])
            | succ kj11 =>
              have H := HA.out
              clear HA
              simp only [onairlaw06_RightsLastDecides.j1] at H
              by_cases c45 : x55_11 = true
              · subst c45
                have H1 : (if x11_1.length < 2199023255552 then ((some (x11_1 ++ [(⟨((rd_T40 t165 x12_1).f0), ((rd_T40 t165 x12_1).f1), ((rd_T40 t165 x12_1).f2), ((rd_T40 t165 x12_1).f3), ((rd_T40 t165 x12_1).f4), ((rd_T40 t165 x12_1).f5), ((rd_T40 t165 x12_1).f6), ((rd_T40 t165 x12_1).f7)⟩ : S40)] : List (S40))).bind fun y173 => (if ((rd_T40 t165 x12_1).f2) ≤ a3 then (if a3 < ((rd_T40 t165 x12_1).f3) then (onairlaw06_RightsLastDecides.l0 kj11 t165 a1 t168 a3 t164 (((rd_T40 t165 x12_1).f0) == 1) y173 (wrap64 (x12_1 + 1))) else (onairlaw06_RightsLastDecides.l0 kj11 t165 a1 t168 a3 t164 x10_1 y173 (wrap64 (x12_1 + 1)))) else (onairlaw06_RightsLastDecides.l0 kj11 t165 a1 t168 a3 t164 x10_1 y173 (wrap64 (x12_1 + 1))))) else (none)) = some r := by rw [if_pos rfl] at H; exact H
                clear H
                have H := H1
                clear H1
                by_cases c46 : x11_1.length < 2199023255552
                · rw [if_pos c46] at H
                  have LMc46 := Aside0.mk c46
                  clear c46
                  obtain ⟨y173, hy173⟩ : ∃ y_ : List (S40), y_ = (x11_1 ++ [(⟨((rd_T40 t165 x12_1).f0), ((rd_T40 t165 x12_1).f1), ((rd_T40 t165 x12_1).f2), ((rd_T40 t165 x12_1).f3), ((rd_T40 t165 x12_1).f4), ((rd_T40 t165 x12_1).f5), ((rd_T40 t165 x12_1).f6), ((rd_T40 t165 x12_1).f7)⟩ : S40)]) := ⟨_, rfl⟩
                  replace H : (if ((rd_T40 t165 x12_1).f2) ≤ a3 then (if a3 < ((rd_T40 t165 x12_1).f3) then (onairlaw06_RightsLastDecides.l0 kj11 t165 a1 t168 a3 t164 (((rd_T40 t165 x12_1).f0) == 1) y173 (wrap64 (x12_1 + 1))) else (onairlaw06_RightsLastDecides.l0 kj11 t165 a1 t168 a3 t164 x10_1 y173 (wrap64 (x12_1 + 1)))) else (onairlaw06_RightsLastDecides.l0 kj11 t165 a1 t168 a3 t164 x10_1 y173 (wrap64 (x12_1 + 1)))) = some r := by first | (rw [hy173]; with_reducible exact H) | (have H2_ := (Option.bind_some _ _).symm.trans H; rw [hy173]; with_reducible exact H2_) | (have H2_ := (Option.bind_some _ _).symm.trans H; with_reducible exact H2_) | with_reducible exact H | (rw [hy173]; exact H) | exact H
                  have Ny173 := Aside0.mk hy173
                  clear hy173
                  by_cases c47 : ((rd_T40 t165 x12_1).f2) ≤ a3
                  · rw [if_pos c47] at H
                    have c47b0 : decide (((rd_T40 t165 x12_1).f2) ≤ a3) = true := decide_eq_true c47
                    clear c47
                    by_cases c48 : a3 < ((rd_T40 t165 x12_1).f3)
                    · rw [if_pos c48] at H
                      have c48b0 : decide (a3 < ((rd_T40 t165 x12_1).f3)) = true := decide_eq_true c48
                      clear c48
                      have H' := Aside0.mk H
                      clear H
                      have hcz49_0 : wc.cell? ⟨gb170, 0, none⟩ = some (.int .i64 ((rd_T40 t165 x12_1).f0)) := (blk_cell BK170.out 0).trans rfl
                      have hcz49_1 : wc.cell? ⟨gb170, 1, none⟩ = some (.int .i64 ((rd_T40 t165 x12_1).f1)) := (blk_cell BK170.out 1).trans rfl
                      have hcz49_2 : wc.cell? ⟨gb170, 2, none⟩ = some (.int .i64 ((rd_T40 t165 x12_1).f2)) := (blk_cell BK170.out 2).trans rfl
                      have hcz49_3 : wc.cell? ⟨gb170, 3, none⟩ = some (.int .i64 ((rd_T40 t165 x12_1).f3)) := (blk_cell BK170.out 3).trans rfl
                      have hcz49_4 : wc.cell? ⟨gb170, 4, none⟩ = some (.int .i64 ((rd_T40 t165 x12_1).f4)) := (blk_cell BK170.out 4).trans rfl
                      have hcz49_5 : wc.cell? ⟨gb170, 5, none⟩ = some (.int .i64 ((rd_T40 t165 x12_1).f5)) := (blk_cell BK170.out 5).trans rfl
                      have hcz49_6 : wc.cell? ⟨gb170, 6, none⟩ = some (.int .i64 ((rd_T40 t165 x12_1).f6)) := (blk_cell BK170.out 6).trans rfl
                      have hcz49_7 : wc.cell? ⟨gb170, 7, none⟩ = some (.int .i64 ((rd_T40 t165 x12_1).f7)) := (blk_cell BK170.out 7).trans rfl
                      have hfz49_0 := blk_frozen BK170.out 0
                      have hfz49_1 := blk_frozen BK170.out 1
                      have hfz49_2 := blk_frozen BK170.out 2
                      have hfz49_3 := blk_frozen BK170.out 3
                      have hfz49_4 := blk_frozen BK170.out 4
                      have hfz49_5 := blk_frozen BK170.out 5
                      have hfz49_6 := blk_frozen BK170.out 6
                      have hfz49_7 := blk_frozen BK170.out 7
                      go_wp2_with (first | ((with_reducible refine gate_builtin (b := .append) (xs := #[.tmp 56, .tmp 58]) rfl ?_); at_builtin; refine Kd.R_append k40 (w0 := w) w.heap.size rfl (.tmp 56) (.tmp 58) 22 40 (.agg #[(.int .i64 0), (.int .i64 0), (.int .i64 0), (.int .i64 0), (.int .i64 0), (.int .i64 0), (.int .i64 0), (.int .i64 0)]) 64 rfl Tryz.underlying22 info40 rfl (by decide) (by omega) u11 x11_1 (⟨((rd_T40 t165 x12_1).f0), ((rd_T40 t165 x12_1).f1), ((rd_T40 t165 x12_1).f2), ((rd_T40 t165 x12_1).f3), ((rd_T40 t165 x12_1).f4), ((rd_T40 t165 x12_1).f5), ((rd_T40 t165 x12_1).f6), ((rd_T40 t165 x12_1).f7)⟩ : S40) [.int .i64 ((rd_T40 t165 x12_1).f0), .int .i64 ((rd_T40 t165 x12_1).f1), .int .i64 ((rd_T40 t165 x12_1).f2), .int .i64 ((rd_T40 t165 x12_1).f3), .int .i64 ((rd_T40 t165 x12_1).f4), .int .i64 ((rd_T40 t165 x12_1).f5), .int .i64 ((rd_T40 t165 x12_1).f6), .int .i64 ((rd_T40 t165 x12_1).f7)] (fun k_ => some k_ ≠ (.slice (some ad169) t165.length co13 : Value).ownBlock ∧ k_ ≠ gb170) (fun _ => False) rfl rfl ?aP (fun _ hk => hk.elim) ?aF ?aO ?aB ?aS ?aL ?_; (case aP => exact k40_mkM _ _ _ (⟨((rd_T40 t165 x12_1).f0), ((rd_T40 t165 x12_1).f1), ((rd_T40 t165 x12_1).f2), ((rd_T40 t165 x12_1).f3), ((rd_T40 t165 x12_1).f4), ((rd_T40 t165 x12_1).f5), ((rd_T40 t165 x12_1).f6), ((rd_T40 t165 x12_1).f7)⟩ : S40)); (case aB => exact (by repeat (first | (with_reducible first | exact HB.out | apply below_alloc | apply pw_below_drewN | apply below_drew1 | refine below_set ?_ GE170.out) | exact HB.out))); (case aF => exact (fun k_ hk => ⟨Kd.fresh' (Kd.R_lt (by (with_reducible repeat (first | apply Kd.R_alloc | apply Kd.R_drewN | apply Kd.R_drew)); exact HO_0.out)) k_ hk, Kd.freshB (g := gb170) (o := .cells #[.int .i64 ((rd_T40 t165 x12_1).f0), .int .i64 ((rd_T40 t165 x12_1).f1), .int .i64 ((rd_T40 t165 x12_1).f2), .int .i64 ((rd_T40 t165 x12_1).f3), .int .i64 ((rd_T40 t165 x12_1).f4), .int .i64 ((rd_T40 t165 x12_1).f5), .int .i64 ((rd_T40 t165 x12_1).f6), .int .i64 ((rd_T40 t165 x12_1).f7)] 40 (0, 0)) (by (with_reducible repeat (first | refine blk_drewN ?_ _ | refine blk_drew ?_ | refine blk_alloc ?_ _)); exact BK170.out) k_ hk⟩)); (case aO => exact (by (with_reducible repeat (first | apply Kd.R_alloc | apply Kd.R_drewN | apply Kd.R_drew)); exact HO_11.out)); (case aS => exact (below_size (by repeat (first | (with_reducible first | exact HB.out | apply below_alloc | apply pw_below_drewN | apply below_drew1 | refine below_set ?_ GE170.out) | exact HB.out)))); (case aL => have := LMc46.out; omega); intro v174 w50 ho hb hg hat; rw [← Ny173.out] at ho; have n0_ := Aside0.mk (Kd.R_after (ok := (fun k_ => k_ ≠ gb170)) (by (with_reducible repeat (first | apply Kd.R_alloc | apply Kd.R_drewN | apply Kd.R_drew)); exact Kd.R_mono HO_0.out (fun _ hk => ⟨hk.2, hk.1⟩)) hg hat); have n1_ := Aside0.mk (blk_grown (g := gb170) (o := .cells #[.int .i64 ((rd_T40 t165 x12_1).f0), .int .i64 ((rd_T40 t165 x12_1).f1), .int .i64 ((rd_T40 t165 x12_1).f2), .int .i64 ((rd_T40 t165 x12_1).f3), .int .i64 ((rd_T40 t165 x12_1).f4), .int .i64 ((rd_T40 t165 x12_1).f5), .int .i64 ((rd_T40 t165 x12_1).f6), .int .i64 ((rd_T40 t165 x12_1).f7)] 40 (0, 0)) (by (with_reducible repeat (first | refine blk_drewN ?_ _ | refine blk_drew ?_ | refine blk_alloc ?_ _)); exact BK170.out) hg (Kd.R_away HO_11.out (fun _ hk => hk.2))); have n2_ := Aside0.mk (hb); have n3_ := Aside0.mk (ho); clear HO_0; clear BK170; clear HB; clear HO_11; have HO_0 := n0_; have BK170 := n1_; have HB := n2_; have HO175 := n3_; clear n0_ n1_ n2_ n3_; clear ho hb hg hat; have hcz51_0 : w50.cell? ⟨gb170, 0, none⟩ = some (.int .i64 ((rd_T40 t165 x12_1).f0)) := (blk_cell BK170.out 0).trans rfl; have hcz51_1 : w50.cell? ⟨gb170, 1, none⟩ = some (.int .i64 ((rd_T40 t165 x12_1).f1)) := (blk_cell BK170.out 1).trans rfl; have hcz51_2 : w50.cell? ⟨gb170, 2, none⟩ = some (.int .i64 ((rd_T40 t165 x12_1).f2)) := (blk_cell BK170.out 2).trans rfl; have hcz51_3 : w50.cell? ⟨gb170, 3, none⟩ = some (.int .i64 ((rd_T40 t165 x12_1).f3)) := (blk_cell BK170.out 3).trans rfl; have hcz51_4 : w50.cell? ⟨gb170, 4, none⟩ = some (.int .i64 ((rd_T40 t165 x12_1).f4)) := (blk_cell BK170.out 4).trans rfl; have hcz51_5 : w50.cell? ⟨gb170, 5, none⟩ = some (.int .i64 ((rd_T40 t165 x12_1).f5)) := (blk_cell BK170.out 5).trans rfl; have hcz51_6 : w50.cell? ⟨gb170, 6, none⟩ = some (.int .i64 ((rd_T40 t165 x12_1).f6)) := (blk_cell BK170.out 6).trans rfl; have hcz51_7 : w50.cell? ⟨gb170, 7, none⟩ = some (.int .i64 ((rd_T40 t165 x12_1).f7)) := (blk_cell BK170.out 7).trans rfl; have hfz51_0 := blk_frozen BK170.out 0; have hfz51_1 := blk_frozen BK170.out 1; have hfz51_2 := blk_frozen BK170.out 2; have hfz51_3 := blk_frozen BK170.out 3; have hfz51_4 := blk_frozen BK170.out 4; have hfz51_5 := blk_frozen BK170.out 5; have hfz51_6 := blk_frozen BK170.out 6; have hfz51_7 := blk_frozen BK170.out 7))
                      go_roundg kj11
                      case measure => have := HK1.out; have := HJ11.out; omega
                      case rel => exact ⟨((((rd_T40 t165 x12_1).f0) == 1)), (y173), (wrap64 (x12_1 + 1)), (by first | rfl | (simp; done) | (simp [*]; done)), (by first | rfl | (simp; done) | (simp [*]; done)), H', ⟨by have := HK1.out; have := HJ11.out; omega⟩, ⟨by (with_reducible repeat (first | apply Kd.R_alloc | apply Kd.R_drewN | apply Kd.R_drew)); exact Kd.R_mono HO_0.out (fun _ hk => hk.2)⟩, ⟨by (with_reducible repeat (first | apply Kd.R_alloc | apply Kd.R_drewN | apply Kd.R_drew)); exact Kd.R_mono HO175.out (fun _ hk => hk.1)⟩, ⟨by repeat (first | (with_reducible first | exact HB.out | apply below_alloc | apply pw_below_drewN | apply below_drew1 | refine below_set ?_ GE170.out) | exact HB.out)⟩⟩
                    · rw [if_neg c48] at H
                      have c48b0 : decide (a3 < ((rd_T40 t165 x12_1).f3)) = false := decide_eq_false c48
                      clear c48
                      have H' := Aside0.mk H
                      clear H
                      have hcz52_0 : wc.cell? ⟨gb170, 0, none⟩ = some (.int .i64 ((rd_T40 t165 x12_1).f0)) := (blk_cell BK170.out 0).trans rfl
                      have hcz52_1 : wc.cell? ⟨gb170, 1, none⟩ = some (.int .i64 ((rd_T40 t165 x12_1).f1)) := (blk_cell BK170.out 1).trans rfl
                      have hcz52_2 : wc.cell? ⟨gb170, 2, none⟩ = some (.int .i64 ((rd_T40 t165 x12_1).f2)) := (blk_cell BK170.out 2).trans rfl
                      have hcz52_3 : wc.cell? ⟨gb170, 3, none⟩ = some (.int .i64 ((rd_T40 t165 x12_1).f3)) := (blk_cell BK170.out 3).trans rfl
                      have hcz52_4 : wc.cell? ⟨gb170, 4, none⟩ = some (.int .i64 ((rd_T40 t165 x12_1).f4)) := (blk_cell BK170.out 4).trans rfl
                      have hcz52_5 : wc.cell? ⟨gb170, 5, none⟩ = some (.int .i64 ((rd_T40 t165 x12_1).f5)) := (blk_cell BK170.out 5).trans rfl
                      have hcz52_6 : wc.cell? ⟨gb170, 6, none⟩ = some (.int .i64 ((rd_T40 t165 x12_1).f6)) := (blk_cell BK170.out 6).trans rfl
                      have hcz52_7 : wc.cell? ⟨gb170, 7, none⟩ = some (.int .i64 ((rd_T40 t165 x12_1).f7)) := (blk_cell BK170.out 7).trans rfl
                      have hfz52_0 := blk_frozen BK170.out 0
                      have hfz52_1 := blk_frozen BK170.out 1
                      have hfz52_2 := blk_frozen BK170.out 2
                      have hfz52_3 := blk_frozen BK170.out 3
                      have hfz52_4 := blk_frozen BK170.out 4
                      have hfz52_5 := blk_frozen BK170.out 5
                      have hfz52_6 := blk_frozen BK170.out 6
                      have hfz52_7 := blk_frozen BK170.out 7
                      go_wp2_with (first | ((with_reducible refine gate_builtin (b := .append) (xs := #[.tmp 56, .tmp 58]) rfl ?_); at_builtin; refine Kd.R_append k40 (w0 := w) w.heap.size rfl (.tmp 56) (.tmp 58) 22 40 (.agg #[(.int .i64 0), (.int .i64 0), (.int .i64 0), (.int .i64 0), (.int .i64 0), (.int .i64 0), (.int .i64 0), (.int .i64 0)]) 64 rfl Tryz.underlying22 info40 rfl (by decide) (by omega) u11 x11_1 (⟨((rd_T40 t165 x12_1).f0), ((rd_T40 t165 x12_1).f1), ((rd_T40 t165 x12_1).f2), ((rd_T40 t165 x12_1).f3), ((rd_T40 t165 x12_1).f4), ((rd_T40 t165 x12_1).f5), ((rd_T40 t165 x12_1).f6), ((rd_T40 t165 x12_1).f7)⟩ : S40) [.int .i64 ((rd_T40 t165 x12_1).f0), .int .i64 ((rd_T40 t165 x12_1).f1), .int .i64 ((rd_T40 t165 x12_1).f2), .int .i64 ((rd_T40 t165 x12_1).f3), .int .i64 ((rd_T40 t165 x12_1).f4), .int .i64 ((rd_T40 t165 x12_1).f5), .int .i64 ((rd_T40 t165 x12_1).f6), .int .i64 ((rd_T40 t165 x12_1).f7)] (fun k_ => some k_ ≠ (.slice (some ad169) t165.length co13 : Value).ownBlock ∧ k_ ≠ gb170) (fun _ => False) rfl rfl ?aP (fun _ hk => hk.elim) ?aF ?aO ?aB ?aS ?aL ?_; (case aP => exact k40_mkM _ _ _ (⟨((rd_T40 t165 x12_1).f0), ((rd_T40 t165 x12_1).f1), ((rd_T40 t165 x12_1).f2), ((rd_T40 t165 x12_1).f3), ((rd_T40 t165 x12_1).f4), ((rd_T40 t165 x12_1).f5), ((rd_T40 t165 x12_1).f6), ((rd_T40 t165 x12_1).f7)⟩ : S40)); (case aB => exact (by repeat (first | (with_reducible first | exact HB.out | apply below_alloc | apply pw_below_drewN | apply below_drew1 | refine below_set ?_ GE170.out) | exact HB.out))); (case aF => exact (fun k_ hk => ⟨Kd.fresh' (Kd.R_lt (by (with_reducible repeat (first | apply Kd.R_alloc | apply Kd.R_drewN | apply Kd.R_drew)); exact HO_0.out)) k_ hk, Kd.freshB (g := gb170) (o := .cells #[.int .i64 ((rd_T40 t165 x12_1).f0), .int .i64 ((rd_T40 t165 x12_1).f1), .int .i64 ((rd_T40 t165 x12_1).f2), .int .i64 ((rd_T40 t165 x12_1).f3), .int .i64 ((rd_T40 t165 x12_1).f4), .int .i64 ((rd_T40 t165 x12_1).f5), .int .i64 ((rd_T40 t165 x12_1).f6), .int .i64 ((rd_T40 t165 x12_1).f7)] 40 (0, 0)) (by (with_reducible repeat (first | refine blk_drewN ?_ _ | refine blk_drew ?_ | refine blk_alloc ?_ _)); exact BK170.out) k_ hk⟩)); (case aO => exact (by (with_reducible repeat (first | apply Kd.R_alloc | apply Kd.R_drewN | apply Kd.R_drew)); exact HO_11.out)); (case aS => exact (below_size (by repeat (first | (with_reducible first | exact HB.out | apply below_alloc | apply pw_below_drewN | apply below_drew1 | refine below_set ?_ GE170.out) | exact HB.out)))); (case aL => have := LMc46.out; omega); intro v174 w53 ho hb hg hat; rw [← Ny173.out] at ho; have n0_ := Aside0.mk (Kd.R_after (ok := (fun k_ => k_ ≠ gb170)) (by (with_reducible repeat (first | apply Kd.R_alloc | apply Kd.R_drewN | apply Kd.R_drew)); exact Kd.R_mono HO_0.out (fun _ hk => ⟨hk.2, hk.1⟩)) hg hat); have n1_ := Aside0.mk (blk_grown (g := gb170) (o := .cells #[.int .i64 ((rd_T40 t165 x12_1).f0), .int .i64 ((rd_T40 t165 x12_1).f1), .int .i64 ((rd_T40 t165 x12_1).f2), .int .i64 ((rd_T40 t165 x12_1).f3), .int .i64 ((rd_T40 t165 x12_1).f4), .int .i64 ((rd_T40 t165 x12_1).f5), .int .i64 ((rd_T40 t165 x12_1).f6), .int .i64 ((rd_T40 t165 x12_1).f7)] 40 (0, 0)) (by (with_reducible repeat (first | refine blk_drewN ?_ _ | refine blk_drew ?_ | refine blk_alloc ?_ _)); exact BK170.out) hg (Kd.R_away HO_11.out (fun _ hk => hk.2))); have n2_ := Aside0.mk (hb); have n3_ := Aside0.mk (ho); clear HO_0; clear BK170; clear HB; clear HO_11; have HO_0 := n0_; have BK170 := n1_; have HB := n2_; have HO175 := n3_; clear n0_ n1_ n2_ n3_; clear ho hb hg hat; have hcz54_0 : w53.cell? ⟨gb170, 0, none⟩ = some (.int .i64 ((rd_T40 t165 x12_1).f0)) := (blk_cell BK170.out 0).trans rfl; have hcz54_1 : w53.cell? ⟨gb170, 1, none⟩ = some (.int .i64 ((rd_T40 t165 x12_1).f1)) := (blk_cell BK170.out 1).trans rfl; have hcz54_2 : w53.cell? ⟨gb170, 2, none⟩ = some (.int .i64 ((rd_T40 t165 x12_1).f2)) := (blk_cell BK170.out 2).trans rfl; have hcz54_3 : w53.cell? ⟨gb170, 3, none⟩ = some (.int .i64 ((rd_T40 t165 x12_1).f3)) := (blk_cell BK170.out 3).trans rfl; have hcz54_4 : w53.cell? ⟨gb170, 4, none⟩ = some (.int .i64 ((rd_T40 t165 x12_1).f4)) := (blk_cell BK170.out 4).trans rfl; have hcz54_5 : w53.cell? ⟨gb170, 5, none⟩ = some (.int .i64 ((rd_T40 t165 x12_1).f5)) := (blk_cell BK170.out 5).trans rfl; have hcz54_6 : w53.cell? ⟨gb170, 6, none⟩ = some (.int .i64 ((rd_T40 t165 x12_1).f6)) := (blk_cell BK170.out 6).trans rfl; have hcz54_7 : w53.cell? ⟨gb170, 7, none⟩ = some (.int .i64 ((rd_T40 t165 x12_1).f7)) := (blk_cell BK170.out 7).trans rfl; have hfz54_0 := blk_frozen BK170.out 0; have hfz54_1 := blk_frozen BK170.out 1; have hfz54_2 := blk_frozen BK170.out 2; have hfz54_3 := blk_frozen BK170.out 3; have hfz54_4 := blk_frozen BK170.out 4; have hfz54_5 := blk_frozen BK170.out 5; have hfz54_6 := blk_frozen BK170.out 6; have hfz54_7 := blk_frozen BK170.out 7))
                      go_roundg kj11
                      case measure => have := HK1.out; have := HJ11.out; omega
                      case rel => exact ⟨(x10_1), (y173), (wrap64 (x12_1 + 1)), (by first | rfl | (simp; done) | (simp [*]; done)), (by first | rfl | (simp; done) | (simp [*]; done)), H', ⟨by have := HK1.out; have := HJ11.out; omega⟩, ⟨by (with_reducible repeat (first | apply Kd.R_alloc | apply Kd.R_drewN | apply Kd.R_drew)); exact Kd.R_mono HO_0.out (fun _ hk => hk.2)⟩, ⟨by (with_reducible repeat (first | apply Kd.R_alloc | apply Kd.R_drewN | apply Kd.R_drew)); exact Kd.R_mono HO175.out (fun _ hk => hk.1)⟩, ⟨by repeat (first | (with_reducible first | exact HB.out | apply below_alloc | apply pw_below_drewN | apply below_drew1 | refine below_set ?_ GE170.out) | exact HB.out)⟩⟩
                  · rw [if_neg c47] at H
                    have c47b0 : decide (((rd_T40 t165 x12_1).f2) ≤ a3) = false := decide_eq_false c47
                    clear c47
                    have H' := Aside0.mk H
                    clear H
                    have hcz55_0 : wc.cell? ⟨gb170, 0, none⟩ = some (.int .i64 ((rd_T40 t165 x12_1).f0)) := (blk_cell BK170.out 0).trans rfl
                    have hcz55_1 : wc.cell? ⟨gb170, 1, none⟩ = some (.int .i64 ((rd_T40 t165 x12_1).f1)) := (blk_cell BK170.out 1).trans rfl
                    have hcz55_2 : wc.cell? ⟨gb170, 2, none⟩ = some (.int .i64 ((rd_T40 t165 x12_1).f2)) := (blk_cell BK170.out 2).trans rfl
                    have hcz55_3 : wc.cell? ⟨gb170, 3, none⟩ = some (.int .i64 ((rd_T40 t165 x12_1).f3)) := (blk_cell BK170.out 3).trans rfl
                    have hcz55_4 : wc.cell? ⟨gb170, 4, none⟩ = some (.int .i64 ((rd_T40 t165 x12_1).f4)) := (blk_cell BK170.out 4).trans rfl
                    have hcz55_5 : wc.cell? ⟨gb170, 5, none⟩ = some (.int .i64 ((rd_T40 t165 x12_1).f5)) := (blk_cell BK170.out 5).trans rfl
                    have hcz55_6 : wc.cell? ⟨gb170, 6, none⟩ = some (.int .i64 ((rd_T40 t165 x12_1).f6)) := (blk_cell BK170.out 6).trans rfl
                    have hcz55_7 : wc.cell? ⟨gb170, 7, none⟩ = some (.int .i64 ((rd_T40 t165 x12_1).f7)) := (blk_cell BK170.out 7).trans rfl
                    have hfz55_0 := blk_frozen BK170.out 0
                    have hfz55_1 := blk_frozen BK170.out 1
                    have hfz55_2 := blk_frozen BK170.out 2
                    have hfz55_3 := blk_frozen BK170.out 3
                    have hfz55_4 := blk_frozen BK170.out 4
                    have hfz55_5 := blk_frozen BK170.out 5
                    have hfz55_6 := blk_frozen BK170.out 6
                    have hfz55_7 := blk_frozen BK170.out 7
                    go_wp2_with (first | ((with_reducible refine gate_builtin (b := .append) (xs := #[.tmp 56, .tmp 58]) rfl ?_); at_builtin; refine Kd.R_append k40 (w0 := w) w.heap.size rfl (.tmp 56) (.tmp 58) 22 40 (.agg #[(.int .i64 0), (.int .i64 0), (.int .i64 0), (.int .i64 0), (.int .i64 0), (.int .i64 0), (.int .i64 0), (.int .i64 0)]) 64 rfl Tryz.underlying22 info40 rfl (by decide) (by omega) u11 x11_1 (⟨((rd_T40 t165 x12_1).f0), ((rd_T40 t165 x12_1).f1), ((rd_T40 t165 x12_1).f2), ((rd_T40 t165 x12_1).f3), ((rd_T40 t165 x12_1).f4), ((rd_T40 t165 x12_1).f5), ((rd_T40 t165 x12_1).f6), ((rd_T40 t165 x12_1).f7)⟩ : S40) [.int .i64 ((rd_T40 t165 x12_1).f0), .int .i64 ((rd_T40 t165 x12_1).f1), .int .i64 ((rd_T40 t165 x12_1).f2), .int .i64 ((rd_T40 t165 x12_1).f3), .int .i64 ((rd_T40 t165 x12_1).f4), .int .i64 ((rd_T40 t165 x12_1).f5), .int .i64 ((rd_T40 t165 x12_1).f6), .int .i64 ((rd_T40 t165 x12_1).f7)] (fun k_ => some k_ ≠ (.slice (some ad169) t165.length co13 : Value).ownBlock ∧ k_ ≠ gb170) (fun _ => False) rfl rfl ?aP (fun _ hk => hk.elim) ?aF ?aO ?aB ?aS ?aL ?_; (case aP => exact k40_mkM _ _ _ (⟨((rd_T40 t165 x12_1).f0), ((rd_T40 t165 x12_1).f1), ((rd_T40 t165 x12_1).f2), ((rd_T40 t165 x12_1).f3), ((rd_T40 t165 x12_1).f4), ((rd_T40 t165 x12_1).f5), ((rd_T40 t165 x12_1).f6), ((rd_T40 t165 x12_1).f7)⟩ : S40)); (case aB => exact (by repeat (first | (with_reducible first | exact HB.out | apply below_alloc | apply pw_below_drewN | apply below_drew1 | refine below_set ?_ GE170.out) | exact HB.out))); (case aF => exact (fun k_ hk => ⟨Kd.fresh' (Kd.R_lt (by (with_reducible repeat (first | apply Kd.R_alloc | apply Kd.R_drewN | apply Kd.R_drew)); exact HO_0.out)) k_ hk, Kd.freshB (g := gb170) (o := .cells #[.int .i64 ((rd_T40 t165 x12_1).f0), .int .i64 ((rd_T40 t165 x12_1).f1), .int .i64 ((rd_T40 t165 x12_1).f2), .int .i64 ((rd_T40 t165 x12_1).f3), .int .i64 ((rd_T40 t165 x12_1).f4), .int .i64 ((rd_T40 t165 x12_1).f5), .int .i64 ((rd_T40 t165 x12_1).f6), .int .i64 ((rd_T40 t165 x12_1).f7)] 40 (0, 0)) (by (with_reducible repeat (first | refine blk_drewN ?_ _ | refine blk_drew ?_ | refine blk_alloc ?_ _)); exact BK170.out) k_ hk⟩)); (case aO => exact (by (with_reducible repeat (first | apply Kd.R_alloc | apply Kd.R_drewN | apply Kd.R_drew)); exact HO_11.out)); (case aS => exact (below_size (by repeat (first | (with_reducible first | exact HB.out | apply below_alloc | apply pw_below_drewN | apply below_drew1 | refine below_set ?_ GE170.out) | exact HB.out)))); (case aL => have := LMc46.out; omega); intro v174 w56 ho hb hg hat; rw [← Ny173.out] at ho; have n0_ := Aside0.mk (Kd.R_after (ok := (fun k_ => k_ ≠ gb170)) (by (with_reducible repeat (first | apply Kd.R_alloc | apply Kd.R_drewN | apply Kd.R_drew)); exact Kd.R_mono HO_0.out (fun _ hk => ⟨hk.2, hk.1⟩)) hg hat); have n1_ := Aside0.mk (blk_grown (g := gb170) (o := .cells #[.int .i64 ((rd_T40 t165 x12_1).f0), .int .i64 ((rd_T40 t165 x12_1).f1), .int .i64 ((rd_T40 t165 x12_1).f2), .int .i64 ((rd_T40 t165 x12_1).f3), .int .i64 ((rd_T40 t165 x12_1).f4), .int .i64 ((rd_T40 t165 x12_1).f5), .int .i64 ((rd_T40 t165 x12_1).f6), .int .i64 ((rd_T40 t165 x12_1).f7)] 40 (0, 0)) (by (with_reducible repeat (first | refine blk_drewN ?_ _ | refine blk_drew ?_ | refine blk_alloc ?_ _)); exact BK170.out) hg (Kd.R_away HO_11.out (fun _ hk => hk.2))); have n2_ := Aside0.mk (hb); have n3_ := Aside0.mk (ho); clear HO_0; clear BK170; clear HB; clear HO_11; have HO_0 := n0_; have BK170 := n1_; have HB := n2_; have HO175 := n3_; clear n0_ n1_ n2_ n3_; clear ho hb hg hat; have hcz57_0 : w56.cell? ⟨gb170, 0, none⟩ = some (.int .i64 ((rd_T40 t165 x12_1).f0)) := (blk_cell BK170.out 0).trans rfl; have hcz57_1 : w56.cell? ⟨gb170, 1, none⟩ = some (.int .i64 ((rd_T40 t165 x12_1).f1)) := (blk_cell BK170.out 1).trans rfl; have hcz57_2 : w56.cell? ⟨gb170, 2, none⟩ = some (.int .i64 ((rd_T40 t165 x12_1).f2)) := (blk_cell BK170.out 2).trans rfl; have hcz57_3 : w56.cell? ⟨gb170, 3, none⟩ = some (.int .i64 ((rd_T40 t165 x12_1).f3)) := (blk_cell BK170.out 3).trans rfl; have hcz57_4 : w56.cell? ⟨gb170, 4, none⟩ = some (.int .i64 ((rd_T40 t165 x12_1).f4)) := (blk_cell BK170.out 4).trans rfl; have hcz57_5 : w56.cell? ⟨gb170, 5, none⟩ = some (.int .i64 ((rd_T40 t165 x12_1).f5)) := (blk_cell BK170.out 5).trans rfl; have hcz57_6 : w56.cell? ⟨gb170, 6, none⟩ = some (.int .i64 ((rd_T40 t165 x12_1).f6)) := (blk_cell BK170.out 6).trans rfl; have hcz57_7 : w56.cell? ⟨gb170, 7, none⟩ = some (.int .i64 ((rd_T40 t165 x12_1).f7)) := (blk_cell BK170.out 7).trans rfl; have hfz57_0 := blk_frozen BK170.out 0; have hfz57_1 := blk_frozen BK170.out 1; have hfz57_2 := blk_frozen BK170.out 2; have hfz57_3 := blk_frozen BK170.out 3; have hfz57_4 := blk_frozen BK170.out 4; have hfz57_5 := blk_frozen BK170.out 5; have hfz57_6 := blk_frozen BK170.out 6; have hfz57_7 := blk_frozen BK170.out 7))
                    go_roundg kj11
                    case measure => have := HK1.out; have := HJ11.out; omega
                    case rel => exact ⟨(x10_1), (y173), (wrap64 (x12_1 + 1)), (by first | rfl | (simp; done) | (simp [*]; done)), (by first | rfl | (simp; done) | (simp [*]; done)), H', ⟨by have := HK1.out; have := HJ11.out; omega⟩, ⟨by (with_reducible repeat (first | apply Kd.R_alloc | apply Kd.R_drewN | apply Kd.R_drew)); exact Kd.R_mono HO_0.out (fun _ hk => hk.2)⟩, ⟨by (with_reducible repeat (first | apply Kd.R_alloc | apply Kd.R_drewN | apply Kd.R_drew)); exact Kd.R_mono HO175.out (fun _ hk => hk.1)⟩, ⟨by repeat (first | (with_reducible first | exact HB.out | apply below_alloc | apply pw_below_drewN | apply below_drew1 | refine below_set ?_ GE170.out) | exact HB.out)⟩⟩
                · rw [if_neg c46] at H
                  exact absurd H (by simp)
              · replace c45 := Bool.eq_false_iff.mpr c45
                subst c45
                have H1 : (onairlaw06_RightsLastDecides.l0 kj11 t165 a1 t168 a3 t164 x10_1 x11_1 (wrap64 (x12_1 + 1))) = some r := by rw [if_neg (show ¬ (false = true) by decide)] at H; exact H
                clear H
                have H := H1
                clear H1
                have H' := Aside0.mk H
                clear H
                go_wp2
                go_roundg kj11
                case measure => have := HK1.out; have := HJ11.out; omega
                case rel => exact ⟨(x10_1), (x11_1), (wrap64 (x12_1 + 1)), (by first | rfl | (simp; done) | (simp [*]; done)), (by first | rfl | (simp; done) | (simp [*]; done)), H', ⟨by have := HK1.out; have := HJ11.out; omega⟩, ⟨by (with_reducible repeat (first | apply Kd.R_alloc | apply Kd.R_drewN | apply Kd.R_drew)); exact Kd.R_mono HO_0.out (fun _ hk => hk.1)⟩, ⟨by (with_reducible repeat (first | apply Kd.R_alloc | apply Kd.R_drewN | apply Kd.R_drew)); exact Kd.R_mono HO_11.out (fun _ hk => hk.1)⟩, ⟨by repeat (first | (with_reducible first | exact HB.out | apply below_alloc | apply pw_below_drewN | apply below_drew1 | refine below_set ?_ GE170.out) | exact HB.out)⟩⟩
        · rw [if_neg c11] at H
          exact absurd H (by simp)
      · rw [if_neg c10] at H
        have c10b0 : decide (x12_1 < (t165.length : Int)) = false := decide_eq_false c10
        clear c10
        replace H := Option.bind_eq_some_iff.mp H
        obtain ⟨t176, A580, H⟩ := H
        replace H : (if t164 = true then ((span_Has.f t176 a3).bind fun t179 => (if (t179 == x10_1) = true then ((rights_Spans.f x11_1 a1 t168).bind fun t180 => ((onairref06_SameSpans.f k1 t176 t180).bind fun t183 => (some t183))) else (some false))) else (some false)) = some r := H
        have A58 := Aside0.mk A580
        clear A580
        by_cases c59 : t164 = true
        · subst c59
          have H1 : ((span_Has.f t176 a3).bind fun t179 => (if (t179 == x10_1) = true then ((rights_Spans.f x11_1 a1 t168).bind fun t180 => ((onairref06_SameSpans.f k1 t176 t180).bind fun t183 => (some t183))) else (some false))) = some r := by rw [if_pos rfl] at H; exact H
          clear H
          have H := H1
          clear H1
          replace H := Option.bind_eq_some_iff.mp H
          obtain ⟨t179, A600, H⟩ := H
          replace H : (if (t179 == x10_1) = true then ((rights_Spans.f x11_1 a1 t168).bind fun t180 => ((onairref06_SameSpans.f k1 t176 t180).bind fun t183 => (some t183))) else (some false)) = some r := H
          have A60 := Aside0.mk A600
          clear A600
          by_cases c61 : (t179 == x10_1) = true
          · rw [if_pos c61] at H
            have c61b0 : (t179 == x10_1) = true := c61
            (try (have c61b1 : decide (t179 = x10_1) = true := by simpa using c61))
            (try (have c61b2 : (t179 == x10_1) = true := by simpa using c61))
            clear c61
            replace H := Option.bind_eq_some_iff.mp H
            obtain ⟨t180, A620, H⟩ := H
            replace H : ((onairref06_SameSpans.f k1 t176 t180).bind fun t183 => (some t183)) = some r := H
            have A62 := Aside0.mk A620
            clear A620
            replace H := Option.bind_eq_some_iff.mp H
            obtain ⟨t183, A630, H⟩ := H
            replace H : (some t183) = some r := H
            have A63 := Aside0.mk A630
            clear A630
            obtain rfl := Option.some.inj H
            obtain ⟨Ao64, co64, eo64⟩ := Kd.R_slice HO_0.out
            subst eo64
            go_wp2_with (first | ((with_reducible refine gate_callee (f := 14) rfl ?_); refine goesL_ (some 76) rfl rfl Tryz.func14 (by kernel_rfl) rfl #[.slice Ao64 t165.length co64, .int .i64 a1, .int .i64 t168] rfl (by (try simp only [List.map_toArray, List.map_cons, List.map_nil]); first | done | rfl | (simp only [List.length_drop, List.length_take]; rfl)) ?_; (with_reducible refine (rights_Spans.calls _ _ t165 a1 t168 t176 _ ?side1 ?side2 A58.out).mono ?_); (case side1 => repeat (first | exact (Kd.R_reads' HO_0.out).2.2 | (with_reducible refine Kd.C_alloc ?_ _) | (with_reducible refine Kd.C_drewN ?_ _) | (with_reducible refine Kd.C_drew ?_))); (case side2 => exact (Kd.R_reads' HO_0.out).2.1); rintro e w65 ⟨v177, rfl, ho0, hb⟩; refine ⟨_, rfl, ?_⟩; have n0_ := Aside0.mk (Kd.R_below (by (with_reducible repeat (first | apply Kd.R_alloc | apply Kd.R_drewN | apply Kd.R_drew)); exact HO_0.out) hb); have n1_ := Aside0.mk (Kd.R_below (by (with_reducible repeat (first | apply Kd.R_alloc | apply Kd.R_drewN | apply Kd.R_drew)); exact HO_11.out) hb); have n2_ := Aside0.mk (Kd.R_lower ho0 (below_size (by repeat (first | (with_reducible first | exact HB.out | apply below_alloc | apply pw_below_drewN | apply below_drew1) | exact HB.out)))); have n3_ := Aside0.mk (below_step (by repeat (first | (with_reducible first | exact HB.out | apply below_alloc | apply pw_below_drewN | apply below_drew1) | exact HB.out)) hb); clear HO_0; clear HO_11; clear HB; have HO_0 := n0_; have HO_11 := n1_; have HO178 := n2_; have HB := n3_; clear n0_ n1_ n2_ n3_; (try clear hb); (try clear hb2); (try clear hk); (try clear hi); (try clear ho0); obtain ⟨Ao66, co66, eo66⟩ := Kd.R_slice HO178.out; subst eo66) | (go_at_call 25; (with_reducible refine (span_Has.calls _ _ t176 a3 t179 _ ?side1 ?side2 A60.out).mono ?_); (case side1 => repeat (first | exact (Kd.R_reads' HO178.out).2.2 | (with_reducible refine Kd.C_alloc ?_ _) | (with_reducible refine Kd.C_drewN ?_ _) | (with_reducible refine Kd.C_drew ?_))); (case side2 => exact (Kd.R_reads' HO178.out).2.1); rintro e w67 ⟨rfl, hb⟩; have n0_ := Aside0.mk (Kd.R_below (by (with_reducible repeat (first | apply Kd.R_alloc | apply Kd.R_drewN | apply Kd.R_drew)); exact HO_0.out) hb); have n1_ := Aside0.mk (Kd.R_below (by (with_reducible repeat (first | apply Kd.R_alloc | apply Kd.R_drewN | apply Kd.R_drew)); exact HO_11.out) hb); have n2_ := Aside0.mk (Kd.R_below (by (with_reducible repeat (first | apply Kd.R_alloc | apply Kd.R_drewN | apply Kd.R_drew)); exact HO178.out) hb); have n3_ := Aside0.mk (below_step (by repeat (first | (with_reducible first | exact HB.out | apply below_alloc | apply pw_below_drewN | apply below_drew1) | exact HB.out)) hb); clear HO_0; clear HO_11; clear HO178; clear HB; have HO_0 := n0_; have HO_11 := n1_; have HO178 := n2_; have HB := n3_; clear n0_ n1_ n2_ n3_; (try clear hb); (try clear hb2); (try clear hk); (try clear hi); obtain ⟨Ao68, co68, eo68⟩ := Kd.R_slice HO_11.out; subst eo68) | (go_at_call 14; (with_reducible refine (rights_Spans.calls _ _ x11_1 a1 t168 t180 _ ?side1 ?side2 A62.out).mono ?_); (case side1 => repeat (first | exact (Kd.R_reads' HO_11.out).2.2 | (with_reducible refine Kd.C_alloc ?_ _) | (with_reducible refine Kd.C_drewN ?_ _) | (with_reducible refine Kd.C_drew ?_))); (case side2 => exact (Kd.R_reads' HO_11.out).2.1); rintro e w69 ⟨v181, rfl, ho0, hb⟩; have n0_ := Aside0.mk (Kd.R_below (by (with_reducible repeat (first | apply Kd.R_alloc | apply Kd.R_drewN | apply Kd.R_drew)); exact HO_0.out) hb); have n1_ := Aside0.mk (Kd.R_below (by (with_reducible repeat (first | apply Kd.R_alloc | apply Kd.R_drewN | apply Kd.R_drew)); exact HO_11.out) hb); have n2_ := Aside0.mk (Kd.R_elder' (by (with_reducible repeat (first | apply Kd.R_alloc | apply Kd.R_drewN | apply Kd.R_drew)); exact HO178.out) (Kd.R_base ho0) hb); have n3_ := Aside0.mk (Kd.R_lower (Kd.R_new' ho0 (Kd.R_lt (by (with_reducible repeat (first | apply Kd.R_alloc | apply Kd.R_drewN | apply Kd.R_drew)); exact HO178.out))) (below_size (by repeat (first | (with_reducible first | exact HB.out | apply below_alloc | apply pw_below_drewN | apply below_drew1) | exact HB.out)))); have n4_ := Aside0.mk (below_step (by repeat (first | (with_reducible first | exact HB.out | apply below_alloc | apply pw_below_drewN | apply below_drew1) | exact HB.out)) hb); clear HO_0; clear HO_11; clear HO178; clear HB; have HO_0 := n0_; have HO_11 := n1_; have HO178 := n2_; have HO182 := n3_; have HB := n4_; clear n0_ n1_ n2_ n3_ n4_; (try clear hb); (try clear hb2); (try clear hk); (try clear hi); (try clear ho0); obtain ⟨Ao70, co70, eo70⟩ := Kd.R_slice HO182.out; subst eo70) | (go_at_call 13; (with_reducible refine (onairref06_SameSpans.calls k1 _ _ t176 _ _ t180 t183 _ ?side1 ?side2 ?side3 ?side4 A63.out).mono ?_); (case side1 => repeat (first | exact (Kd.R_reads' HO178.out).2.2 | (with_reducible refine Kd.C_alloc ?_ _) | (with_reducible refine Kd.C_drewN ?_ _) | (with_reducible refine Kd.C_drew ?_))); (case side2 => exact (Kd.R_reads' HO178.out).2.1); (case side3 => repeat (first | exact (Kd.R_reads' HO182.out).2.2 | (with_reducible refine Kd.C_alloc ?_ _) | (with_reducible refine Kd.C_drewN ?_ _) | (with_reducible refine Kd.C_drew ?_))); (case side4 => exact (Kd.R_reads' HO182.out).2.1); rintro e w' ⟨rfl, ⟨nd, rfl⟩⟩))
            go_ret
            exact ⟨by first | rfl | (simp [errW_none, errW_some] <;> rfl) | (simp [*, errW_none, errW_some] <;> rfl), by repeat (first | (with_reducible first | exact HB.out | apply below_alloc | apply pw_below_drewN | apply below_drew1) | exact HB.out)⟩
          · rw [if_neg c61] at H
            have c61b0 : (t179 == x10_1) = false := by simpa using c61
            (try (have c61b1 : decide (t179 = x10_1) = false := by simpa using c61))
            (try (have c61b2 : (t179 == x10_1) = false := by simpa using c61))
            (try (have c61b3 : ¬ (t179 = x10_1) := by simpa using c61))
            clear c61
            obtain rfl := Option.some.inj H
            obtain ⟨Ao71, co71, eo71⟩ := Kd.R_slice HO_0.out
            subst eo71
            go_wp2_with (first | ((with_reducible refine gate_callee (f := 14) rfl ?_); refine goesL_ (some 76) rfl rfl Tryz.func14 (by kernel_rfl) rfl #[.slice Ao71 t165.length co71, .int .i64 a1, .int .i64 t168] rfl (by (try simp only [List.map_toArray, List.map_cons, List.map_nil]); first | done | rfl | (simp only [List.length_drop, List.length_take]; rfl)) ?_; (with_reducible refine (rights_Spans.calls _ _ t165 a1 t168 t176 _ ?side1 ?side2 A58.out).mono ?_); (case side1 => repeat (first | exact (Kd.R_reads' HO_0.out).2.2 | (with_reducible refine Kd.C_alloc ?_ _) | (with_reducible refine Kd.C_drewN ?_ _) | (with_reducible refine Kd.C_drew ?_))); (case side2 => exact (Kd.R_reads' HO_0.out).2.1); rintro e w72 ⟨v177, rfl, ho0, hb⟩; refine ⟨_, rfl, ?_⟩; have n0_ := Aside0.mk (Kd.R_below (by (with_reducible repeat (first | apply Kd.R_alloc | apply Kd.R_drewN | apply Kd.R_drew)); exact HO_0.out) hb); have n1_ := Aside0.mk (Kd.R_below (by (with_reducible repeat (first | apply Kd.R_alloc | apply Kd.R_drewN | apply Kd.R_drew)); exact HO_11.out) hb); have n2_ := Aside0.mk (Kd.R_lower ho0 (below_size (by repeat (first | (with_reducible first | exact HB.out | apply below_alloc | apply pw_below_drewN | apply below_drew1) | exact HB.out)))); have n3_ := Aside0.mk (below_step (by repeat (first | (with_reducible first | exact HB.out | apply below_alloc | apply pw_below_drewN | apply below_drew1) | exact HB.out)) hb); clear HO_0; clear HO_11; clear HB; have HO_0 := n0_; have HO_11 := n1_; have HO178 := n2_; have HB := n3_; clear n0_ n1_ n2_ n3_; (try clear hb); (try clear hb2); (try clear hk); (try clear hi); (try clear ho0); obtain ⟨Ao73, co73, eo73⟩ := Kd.R_slice HO178.out; subst eo73) | (go_at_call 25; (with_reducible refine (span_Has.calls _ _ t176 a3 t179 _ ?side1 ?side2 A60.out).mono ?_); (case side1 => repeat (first | exact (Kd.R_reads' HO178.out).2.2 | (with_reducible refine Kd.C_alloc ?_ _) | (with_reducible refine Kd.C_drewN ?_ _) | (with_reducible refine Kd.C_drew ?_))); (case side2 => exact (Kd.R_reads' HO178.out).2.1); rintro e w74 ⟨rfl, hb⟩; have n0_ := Aside0.mk (Kd.R_below (by (with_reducible repeat (first | apply Kd.R_alloc | apply Kd.R_drewN | apply Kd.R_drew)); exact HO_0.out) hb); have n1_ := Aside0.mk (Kd.R_below (by (with_reducible repeat (first | apply Kd.R_alloc | apply Kd.R_drewN | apply Kd.R_drew)); exact HO_11.out) hb); have n2_ := Aside0.mk (Kd.R_below (by (with_reducible repeat (first | apply Kd.R_alloc | apply Kd.R_drewN | apply Kd.R_drew)); exact HO178.out) hb); have n3_ := Aside0.mk (below_step (by repeat (first | (with_reducible first | exact HB.out | apply below_alloc | apply pw_below_drewN | apply below_drew1) | exact HB.out)) hb); clear HO_0; clear HO_11; clear HO178; clear HB; have HO_0 := n0_; have HO_11 := n1_; have HO178 := n2_; have HB := n3_; clear n0_ n1_ n2_ n3_; (try clear hb); (try clear hb2); (try clear hk); (try clear hi)))
            go_ret
            exact ⟨by first | rfl | (simp [errW_none, errW_some] <;> rfl) | (simp [*, errW_none, errW_some] <;> rfl), by repeat (first | (with_reducible first | exact HB.out | apply below_alloc | apply pw_below_drewN | apply below_drew1) | exact HB.out)⟩
        · replace c59 := Bool.eq_false_iff.mpr c59
          subst c59
          have H1 : (some false) = some r := by rw [if_neg (show ¬ (false = true) by decide)] at H; exact H
          clear H
          have H := H1
          clear H1
          obtain rfl := Option.some.inj H
          obtain ⟨Ao75, co75, eo75⟩ := Kd.R_slice HO_0.out
          subst eo75
          go_wp2_with (first | ((with_reducible refine gate_callee (f := 14) rfl ?_); refine goesL_ (some 76) rfl rfl Tryz.func14 (by kernel_rfl) rfl #[.slice Ao75 t165.length co75, .int .i64 a1, .int .i64 t168] rfl (by (try simp only [List.map_toArray, List.map_cons, List.map_nil]); first | done | rfl | (simp only [List.length_drop, List.length_take]; rfl)) ?_; (with_reducible refine (rights_Spans.calls _ _ t165 a1 t168 t176 _ ?side1 ?side2 A58.out).mono ?_); (case side1 => repeat (first | exact (Kd.R_reads' HO_0.out).2.2 | (with_reducible refine Kd.C_alloc ?_ _) | (with_reducible refine Kd.C_drewN ?_ _) | (with_reducible refine Kd.C_drew ?_))); (case side2 => exact (Kd.R_reads' HO_0.out).2.1); rintro e w76 ⟨v177, rfl, ho0, hb⟩; refine ⟨_, rfl, ?_⟩; have n0_ := Aside0.mk (Kd.R_below (by (with_reducible repeat (first | apply Kd.R_alloc | apply Kd.R_drewN | apply Kd.R_drew)); exact HO_0.out) hb); have n1_ := Aside0.mk (Kd.R_below (by (with_reducible repeat (first | apply Kd.R_alloc | apply Kd.R_drewN | apply Kd.R_drew)); exact HO_11.out) hb); have n2_ := Aside0.mk (Kd.R_lower ho0 (below_size (by repeat (first | (with_reducible first | exact HB.out | apply below_alloc | apply pw_below_drewN | apply below_drew1) | exact HB.out)))); have n3_ := Aside0.mk (below_step (by repeat (first | (with_reducible first | exact HB.out | apply below_alloc | apply pw_below_drewN | apply below_drew1) | exact HB.out)) hb); clear HO_0; clear HO_11; clear HB; have HO_0 := n0_; have HO_11 := n1_; have HO178 := n2_; have HB := n3_; clear n0_ n1_ n2_ n3_; (try clear hb); (try clear hb2); (try clear hk); (try clear hi); (try clear ho0)))
          go_ret
          exact ⟨by first | rfl | (simp [errW_none, errW_some] <;> rfl) | (simp [*, errW_none, errW_some] <;> rfl), by repeat (first | (with_reducible first | exact HB.out | apply below_alloc | apply pw_below_drewN | apply below_drew1) | exact HB.out)⟩

end Go.Proofs.YtpefhdjkpdjdpaaGreatDoor.R
namespace Go.Proofs.YtpefhdjkpdjdpaaGreatDoor.R
open Go Go.RowKit Go.Proofs.YtpefhdjkpdjdpaaGreatDoorW.PrintWords Go.Proofs.YtpefhdjkpdjdpaaGreatDoorW.PrintLast Go.Proofs.YtpefhdjkpdjdpaaGreatDoorW.PrintMore
theorem reg_bits : ∀ R : Fin 256, ∀ r : Fin 8, (Int.tmod (shr .i64 (R.val : Int) (r.val : Int)) 2 == 1) = inReg (R.val : Int) (r.val : Int) := by decide +kernel
theorem reg_mod (R r : Int) (h0 : 0 ≤ R) (h1 : R ≤ 255) (h2 : 0 ≤ r) (h3 : r ≤ 7) : (Int.tmod (shr .i64 R r) 2 == 1) = inReg R r := by
  have h := reg_bits ⟨R.toNat, by omega⟩ ⟨r.toNat, by omega⟩
  have e1 : ((R.toNat : Nat) : Int) = R := by omega
  have e2 : ((r.toNat : Nat) : Int) = r := by omega
  simp only [e1, e2] at h
  exact h
theorem vld_regs {y : S40} (h : vld y = true) (h0 : y.f0 = 1 ∨ y.f0 = 2) : 0 ≤ y.f4 ∧ y.f4 ≤ 255 ∧ y.f2 < y.f3 := by
  rcases vld_cases y h with h | h | h | h
  · omega
  · omega
  · omega
  · omega
theorem sel_eq (item region : Int) (y : S40) (hr : 0 ≤ region ∧ region ≤ 7) (hv : vld y = true) (h0 : y.f0 = 1 ∨ y.f0 = 2) : sel item region y = ((y.f1 == item) && (Int.tmod (shr .i64 y.f4 region) 2 == 1)) := by
  have h := vld_regs hv h0
  rw [reg_mod _ _ h.1 h.2.1 hr.1 hr.2]
  unfold sel conc
  have e : (y.f0 == 1 || y.f0 == 2) = true := by rcases h0 with h0 | h0 <;> simp [h0]
  rw [e, hv, Bool.true_and, Bool.and_true, decide_eq_true hr.1, decide_eq_true hr.2]
  rfl
theorem j1_5 (k : Nat) (S : List S40) (a1 reg a3 : Int) (x10 : Bool) (x11 : List S40) (i : Nat) (hi : i < 1000) (hx : x11.length ≤ 1000) (b : Bool) (y : S40) :
    onairlaw06_RightsLastDecides.j1 (k + 1) S a1 reg a3 true x10 x11 (i : Int) b y.f0 y.f1 y.f2 y.f3 y.f4 y.f5 y.f6 y.f7 =
    if b = true then onairlaw06_RightsLastDecides.l0 k S a1 reg a3 true (nextW a3 x10 y) (x11 ++ [y]) ((i + 1 : Nat) : Int) else onairlaw06_RightsLastDecides.l0 k S a1 reg a3 true x10 x11 ((i + 1 : Nat) : Int) := by
  have hw : wrap64 ((i : Int) + 1) = ((i + 1 : Nat) : Int) := by unfold wrap64; omega
  unfold onairlaw06_RightsLastDecides.j1
  cases b with
  | false => rw [if_neg (by decide), if_neg (by decide), hw]
  | true =>
    rw [if_pos rfl, if_pos rfl, if_pos (by omega), Option.bind_some, hw]
    unfold nextW
    by_cases h1 : y.f2 ≤ a3
    · rw [if_pos h1]
      by_cases h2 : a3 < y.f3
      · rw [if_pos h2]
        simp [h1, h2]
      · rw [if_neg h2]
        simp [h2]
    · rw [if_neg h1]
      simp [h1]
theorem step5 (k : Nat) (S : List S40) (a1 reg a3 : Int) (x10 : Bool) (x11 : List S40) (i : Nat) (hi : i < S.length) (hS : S.length ≤ 1000) (hr : 0 ≤ reg ∧ reg ≤ 7) (hx : x11.length ≤ 1000) :
    onairlaw06_RightsLastDecides.l0 (k + 3) S a1 reg a3 true x10 x11 (i : Int) =
    if sel a1 reg (rd_T40 S (i : Int)) = true then onairlaw06_RightsLastDecides.l0 (k + 1) S a1 reg a3 true (nextW a3 x10 (rd_T40 S (i : Int))) (x11 ++ [rd_T40 S (i : Int)]) ((i + 1 : Nat) : Int) else onairlaw06_RightsLastDecides.l0 (k + 1) S a1 reg a3 true x10 x11 ((i + 1 : Nat) : Int) := by
  conv => lhs; unfold onairlaw06_RightsLastDecides.l0
  rw [if_pos (by omega), if_pos (by omega)]
  generalize rd_T40 S (i : Int) = y
  have hj := fun b => j1_5 (k + 1) S a1 reg a3 x10 x11 i (by omega) hx b y
  rw [valid_f k y]
  simp only [Option.bind_some, hj]
  by_cases h1 : y.f0 = 1 ∨ y.f0 = 2
  · by_cases hv : vld y = true
    · have hs := sel_eq a1 reg y hr hv h1
      by_cases hit : y.f1 = a1
      · have hb : (y.f1 == a1) = true := beq_iff_eq.2 hit
        rw [hb, Bool.true_and] at hs
        rw [hs]
        rcases h1 with h1 | h1
        · rw [if_pos h1, if_pos hv, if_pos hit, if_pos hr.1]
        · rw [if_neg (by omega), if_pos h1, if_pos hv, if_pos hit, if_pos hr.1]
      · have hb : (y.f1 == a1) = false := beq_eq_false_iff_ne.2 hit
        rw [hb, Bool.false_and] at hs
        rw [hs]
        rcases h1 with h1 | h1
        · rw [if_pos h1, if_pos hv, if_neg hit]
        · rw [if_neg (by omega), if_pos h1, if_pos hv, if_neg hit]
    · have hs : sel a1 reg y = false := by unfold sel; rw [Bool.not_eq_true] at hv; rw [hv, Bool.and_false]
      rw [hs]
      rcases h1 with h1 | h1
      · rw [if_pos h1, if_neg hv]
      · rw [if_neg (by omega), if_pos h1, if_neg hv]
  · have hs : sel a1 reg y = false := by
      unfold sel
      have e1 : (y.f0 == 1) = false := beq_eq_false_iff_ne.2 (fun e => h1 (.inl e))
      have e2 : (y.f0 == 2) = false := beq_eq_false_iff_ne.2 (fun e => h1 (.inr e))
      rw [e1, e2]; rfl
    rw [hs, if_neg (fun e => h1 (.inl e)), if_neg (fun e => h1 (.inr e))]
theorem loop5 (S : List S40) (a1 reg a3 : Int) (hS : S.length ≤ 1000) (hr : 0 ≤ reg ∧ reg ≤ 7) : ∀ (m i k : Nat), i + m = S.length →
    onairlaw06_RightsLastDecides.l0 (2 * m + (spansT S a1 reg).length + 3 + k) S a1 reg a3 true (decS ((S.take i).filter (sel a1 reg)) a3) ((S.take i).filter (sel a1 reg)) (i : Int) = some true
  | 0, i, k, h => by
    obtain rfl : i = S.length := by omega
    rw [List.take_length]
    have hf : (S.filter (sel a1 reg)).length ≤ S.length := List.length_filter_le _ _
    have h2 : rights_Spans.f (S.filter (sel a1 reg)) a1 reg = some (spansT S a1 reg) := by
      unfold rights_Spans.f
      rw [if_pos (by omega)]
      unfold spansT
      rw [List.filter_filter]
      simp
    have h1 : rights_Spans.f S a1 reg = some (spansT S a1 reg) := by unfold rights_Spans.f; rw [if_pos (by omega)]
    have hl : (spansT S a1 reg).length ≤ 2000 := by have := spansOf_len (S.filter (sel a1 reg)); unfold spansT; omega
    have hsm := same_f (spansT S a1 reg) (by omega) (1 + k)
    rw [show 2 * 0 + (spansT S a1 reg).length + 3 + k = ((spansT S a1 reg).length + 1 + (1 + k)) + 1 by omega]
    unfold onairlaw06_RightsLastDecides.l0
    rw [if_neg (by omega), h1, Option.bind_some, if_pos rfl]
    have hh : span_Has.f (spansT S a1 reg) a3 = some (decS (S.filter (sel a1 reg)) a3) := by unfold span_Has.f spansT; rw [spans_has]
    rw [hh, Option.bind_some, if_pos (by simp), h2, Option.bind_some, hsm]
    rfl
  | m + 1, i, k, h => by
    have ih := loop5 S a1 reg a3 hS hr m (i + 1) k (by omega)
    have hx : ((S.take i).filter (sel a1 reg)).length ≤ 1000 := by
      have h1 := List.length_filter_le (sel a1 reg) (S.take i)
      have h2 := List.length_take_le i S
      rw [List.length_take] at h1
      omega
    rw [show 2 * (m + 1) + (spansT S a1 reg).length + 3 + k = (2 * m + (spansT S a1 reg).length + 2 + k) + 3 by omega, step5 _ S a1 reg a3 _ _ i (by omega) hS hr hx]
    have ht : (S.take (i + 1)).filter (sel a1 reg) = if sel a1 reg (rd_T40 S (i : Int)) then (S.take i).filter (sel a1 reg) ++ [rd_T40 S (i : Int)] else (S.take i).filter (sel a1 reg) := by
      rw [List.take_add_one, List.filter_append]
      have : S[i]?.toList = [rd_T40 S (i : Int)] := by simp [rd_T40, show i < S.length by omega]
      rw [this, List.filter_cons]
      split <;> simp
    rw [ht] at ih
    rw [show 2 * m + (spansT S a1 reg).length + 2 + k + 1 = 2 * m + (spansT S a1 reg).length + 3 + k by omega]
    split
    · rename_i hs
      rw [if_pos hs, decS_snoc] at ih
      exact ih
    · rename_i hs
      rw [if_neg hs] at ih
      exact ih
theorem lastDecides_true (l : List S40) (a1 a2 a3 : Int) (ha : fits a2) : ∃ k, onairlaw06_RightsLastDecides.f k l a1 a2 a3 = some true := by
  obtain ⟨r, hp, h0, h1⟩ := pick_f a2 8 ha (by decide) (by decide)
  have hS : (l.take 60).length ≤ 1000 := by rw [List.length_take]; omega
  have := loop5 (l.take 60) a1 r a3 hS ⟨h0, by omega⟩ (l.take 60).length 0 0 (by omega)
  refine ⟨2 * (l.take 60).length + (spansT (l.take 60) a1 r).length + 3 + 0, ?_⟩
  unfold onairlaw06_RightsLastDecides.f
  rw [show onairlaw06_sane.f = some true from rfl, Option.bind_some, cut_f l 60 (by decide) (by decide), Option.bind_some, hp, Option.bind_some]
  exact this
end Go.Proofs.YtpefhdjkpdjdpaaGreatDoor.R
namespace Go.Proofs.YtpefhdjkpdjdpaaGreatDoor.R
open Go Go.ChangeShapes Go.WideShapes Go.ChangeAt Go.Deep Go.RowKit Go.Proofs.YtpefhdjkpdjdpaaGreatDoorW.PrintWords Go.Proofs.YtpefhdjkpdjdpaaGreatDoorW.PrintLast Go.Proofs.YtpefhdjkpdjdpaaGreatDoorW.PrintMore
def args5 : Array Value := #[.slice none 0 0, .int .i64 0, .int .i64 0, .int .i64 0]
theorem laid_met5 (os : Os) : laidMetH Tryz.prog laidL ((laidWorld os).forCall (fun _ _ => 0) ⟨#[], args5, []⟩).memory := by
  rw [MakeChecks.laidMetH_plain _ _ _ (by kernel_rfl)]
  exact laidMet_of_run' 8 (by kernel_rfl) (by kernel_rfl)
theorem reads5 (os : Os) {H : Type} (enc : TypeId × Value → H) : ∃ places, DataW.whole enc Tryz.prog ((laidWorld os).forCall (fun _ _ => 0) ⟨#[], args5, []⟩).memory Tryz.f5.params.toList Rows.rightsLastDecidesSpec.vars false args5.toList 8 = some ([.nil, .lit (.int .i64 0), .lit (.int .i64 0), .lit (.int .i64 0)], [], places) :=
  ⟨[], by kernel_rfl⟩
set_option maxRecDepth 100000 in
theorem lifted5 (os : Os) (started : os.Started) (H : Type) (enc : TypeId × Value → H) (F : Stop.Interp) :
    ReturnsInHanded {} Tryz.checked os 5 .any ((OpenSpec.ofChange Rows.rightsLastDecidesSpec).preRow enc Tryz.prog Tryz.f5 Rows.rightsLastDecidesRow.domain false Rows.rightsLastDecidesRow.laid) (((OpenSpec.ofChange Rows.rightsLastDecidesSpec).at F).post enc Tryz.prog Tryz.f5 false true false false) := by
  obtain ⟨places, hx⟩ := reads5 os enc
  refine returnsInHanded_of_row (C := Tryz.checked) (s := OpenSpec.ofChange Rows.rightsLastDecidesSpec) own_ started (by kernel_rfl) Tryz.func5
    (witness_row_atRef (enc := enc) (C := Tryz.checked) false (laidWorld os) args5 rfl (by kernel_rfl) (by kernel_rfl) (by kernel_rfl)
      (OpenSpec.preRow_of_cond 8 hx (by kernel_rfl) (fun k hk => by cases hk) (by kernel_rfl) (laid_met5 os))) ?_
  intro W base args ds gs before hval0 hW _ _ _ hL hsh _
  have hval : ∀ (j : Nat) t v, Tryz.f5.params[j]? = some t → args[j]? = some v → Value.okWide Tryz.prog W .any base t v := hval0
  have hW' := hW
  obtain ⟨p, q, hA0, hV, rfl, _, _⟩ := hW
  have hA : DataW.TrodAll enc Tryz.prog W 0 (fun _ => true) true Tryz.f5.params.toList args.toList ds p := hA0
  rw [Tryz.params5] at hA hval
  obtain ⟨v0, vs0, d0, ds0, p0, q0, hargs, rfl, rfl, h0, r0⟩ := trodAll_cons hA
  obtain ⟨v1, vs1, d1, ds1, p1, q1, rfl, rfl, rfl, h1, r1⟩ := trodAll_cons r0
  obtain ⟨v2, vs2, d2, ds2, p2, q2, rfl, rfl, rfl, h2, r2⟩ := trodAll_cons r1
  obtain ⟨v3, vs3, d3, ds3, p3, q3, rfl, rfl, rfl, h3, r3⟩ := trodAll_cons r2
  obtain ⟨rfl, rfl, rfl⟩ := trodAll_nil r3
  obtain rfl : args = #[v0, v1, v2, v3] := by cases args; simp_all
  obtain ⟨rfl, rfl⟩ := trodVars_none hV
  obtain ⟨a1, rfl, rfl, rfl, w1⟩ := open_int Tryz.underlying3 (hval 1 3 v1 rfl rfl) h1
  obtain ⟨a2, rfl, rfl, rfl, w2⟩ := open_int Tryz.underlying3 (hval 2 3 v2 rfl rfl) h2
  obtain ⟨a3, rfl, rfl, rfl, w3⟩ := open_int Tryz.underlying3 (hval 3 3 v3 rfl rfl) h3
  obtain ⟨A0, c0, l0, rfl, hlc, hC⟩ := C40_of_arg (hval 0 22 v0 rfl rfl) h0
  clear hA0 hval0
  simp only [List.append_nil] at hW'
  have hlt : ∀ x ∈ p0, x.block < W.heap.size := fun x hx => by simpa using hW'.lt x hx
  have hT := tabW_of hL hsh
  have hf : fits a2 := by
    have h := w2
    simp only [Lit.wf] at h
    have h2 : (IntKind.i64.min ≤ a2 ∧ a2 ≤ IntKind.i64.max) := by simpa using h
    exact h2
  obtain ⟨k, hk⟩ := lastDecides_true l0 a1 a2 a3 hf
  refine (onairlaw06_RightsLastDecides.calls k A0 c0 l0 a1 a2 a3 true W hC hlc hk hT).mono ?_
  rintro e W' ⟨rfl, hb⟩
  refine ⟨_, rfl, _, _, _, [], p0, [], hW', trodAll_mk1 (shut_bool Tryz.underlying4 _), ?_, rfl, hb.frame _, fun h => by cases h⟩
  have ht := Below.trod laidOut_ (by kernel_rfl) (of_decide_eq_true (by kernel_rfl)) h0 hb hlt
  have := trodAll_cons_mk ht (trodAll_cons_mk (shut_int Tryz.underlying3 w1) (trodAll_cons_mk (shut_int Tryz.underlying3 w2) (trodAll_cons_mk (shut_int Tryz.underlying3 w3) trodAll_mk0)))
  simp only [List.append_nil] at this
  exact this
end Go.Proofs.YtpefhdjkpdjdpaaGreatDoor.R
