/- Parts of the proof, merged out of this seat's texts by a program of this claim. -/
import Derived.Test.YtpefhdjkpdjdpaaGreatDoorLn6
namespace Go.Proofs.YtpefhdjkpdjdpaaGreatDoor.R
open Go.RowKit Go.Proofs.YtpefhdjkpdjdpaaGreatDoorW.PrintWords Go.Proofs.YtpefhdjkpdjdpaaGreatDoorW.PrintLast Go.Proofs.YtpefhdjkpdjdpaaGreatDoorW.PrintMore
attribute [local go_sem] max2_int min2_int max_two min_two max_three min_three max_four min_four   -- for this text's walks alone
set_option linter.unusedVariables false
set_option linter.unusedSimpArgs false
def onairref06_Runs.l0 : Nat → List (S40) → Int → Int → Int → Option (Int)
  | 0, _, _, _, _ => none
  | k + 1, x0, x1, x2, x7 => if x7 ≥ 0 then (if 0 ≤ x7 then (if x7 < (x0.length : Int) then ((onairref06_counts.f k ((rd_T40 x0 x7).f0) ((rd_T40 x0 x7).f1) ((rd_T40 x0 x7).f2) ((rd_T40 x0 x7).f3) ((rd_T40 x0 x7).f4) ((rd_T40 x0 x7).f5) ((rd_T40 x0 x7).f6) ((rd_T40 x0 x7).f7) 3 x1 x2).bind fun t222 => (if t222 = true then (some ((rd_T40 x0 x7).f5)) else (onairref06_Runs.l0 k x0 x1 x2 (wrap64 (x7 - 1))))) else (none)) else (none)) else (some (-1))
def onairref06_Runs.f (k : Nat) (l0 : List (S40)) (a1 : Int) (a2 : Int) : Option (Int) := onairref06_Runs.l0 k l0 a1 a2 (wrap64 ((l0.length : Int) - 1))
set_option maxHeartbeats 8000000 in
set_option maxRecDepth 100000 in
theorem onairref06_Runs.calls (k : Nat) (A0 : Option Addr) (c0 : Nat) (l0 : List (S40)) (a1 : Int) (a2 : Int) (r : Int) (w : World) (hr0 : Kd.C k40 w A0 l0.length l0) (hc0 : l0.length ≤ c0) (h : onairref06_Runs.f k l0 a1 a2 = some r) :
    Calls Tryz.prog 17 #[.slice A0 l0.length c0, .int .i64 a1, .int .i64 a2] w fun e w' => e = .returned (.int .i64 r) ∧ Below w.heap.size w w' := by
  have hu40 := Tryz.underlying40
  have HR0 := Aside0.mk hr0
  have HC0 := Aside0.mk hc0
  clear hr0 hc0
  have HB := Aside0.mk (Below.refl w.heap.size w)
  have H : (onairref06_Runs.l0 k l0 a1 a2 (wrap64 ((l0.length : Int) - 1))) = some r := h
  clear h
  have H' := Aside0.mk H
  clear H
  go_enter Tryz.func17, Tryz.ntmps17
  go_wp2
  go_loopg [7] k (fun kq v7 w' => ∃ (x7_1 : Int), v7 = .int .i64 x7_1 ∧ Aside0 (onairref06_Runs.l0 kq l0 a1 a2 x7_1 = some r) ∧ Aside0 (kq ≤ k) ∧ Aside0 (Below w.heap.size w w'))
  case atStart => exact ⟨(wrap64 ((l0.length : Int) - 1)), (by first | rfl | (simp; done) | (simp [*]; done)), H', ⟨Nat.le_refl _⟩, ⟨by repeat (first | (with_reducible first | exact HB.out | apply below_alloc | apply pw_below_drewN | apply below_drew1) | exact HB.out)⟩⟩
  case round =>
    clear H'
    try clear c1
    try clear p2
    obtain ⟨x7_1, rfl, HA, HK1, HB⟩ := hrel
    cases gk with
    | zero => exact absurd HA.out (by simp [onairref06_Runs.l0])
    | succ k1 =>
      have H := HA.out
      clear HA
      simp only [onairref06_Runs.l0] at H
      by_cases c4 : x7_1 ≥ 0
      · rw [if_pos c4] at H
        have c4b0 : decide (0 ≤ x7_1) = true := decide_eq_true c4
        clear c4
        by_cases c5 : 0 ≤ x7_1
        · rw [if_pos c5] at H
          have c5b0 : decide (0 ≤ x7_1) = true := decide_eq_true c5
          clear c5
          by_cases c6 : x7_1 < (l0.length : Int)
          · rw [if_pos c6] at H
            have c6b0 : decide (x7_1 < (l0.length : Int)) = true := decide_eq_true c6
            clear c6
            replace H := Option.bind_eq_some_iff.mp H
            obtain ⟨t222, A70, H⟩ := H
            replace H : (if t222 = true then (some ((rd_T40 l0 x7_1).f5)) else (onairref06_Runs.l0 k1 l0 a1 a2 (wrap64 (x7_1 - 1)))) = some r := H
            have A7 := Aside0.mk A70
            clear A70
            by_cases c8 : t222 = true
            · subst c8
              have H1 : (some ((rd_T40 l0 x7_1).f5)) = some r := by rw [if_pos rfl] at H; exact H
              clear H
              have H := H1
              clear H1
              obtain rfl := Option.some.inj H
              have p221 : 0 ≤ (x7_1 : Int) := of_decide_eq_true (by first | (with_reducible assumption) | assumption)
              have q221 : x7_1 < (l0.length : Int) := of_decide_eq_true (by first | (with_reducible assumption) | assumption)
              obtain ⟨ad221, e221, hx221_0, hx221_1, hx221_2, hx221_3, hx221_4, hx221_5, hx221_6, hx221_7⟩ := at_T40 HR0.out x7_1 p221 q221
              cases e221
              replace hx221_0 := (HB.out.cell (World.block_lt_of_cell? w _ hx221_0)).trans hx221_0
              replace hx221_1 := (HB.out.cell (World.block_lt_of_cell? w _ hx221_1)).trans hx221_1
              replace hx221_2 := (HB.out.cell (World.block_lt_of_cell? w _ hx221_2)).trans hx221_2
              replace hx221_3 := (HB.out.cell (World.block_lt_of_cell? w _ hx221_3)).trans hx221_3
              replace hx221_4 := (HB.out.cell (World.block_lt_of_cell? w _ hx221_4)).trans hx221_4
              replace hx221_5 := (HB.out.cell (World.block_lt_of_cell? w _ hx221_5)).trans hx221_5
              replace hx221_6 := (HB.out.cell (World.block_lt_of_cell? w _ hx221_6)).trans hx221_6
              replace hx221_7 := (HB.out.cell (World.block_lt_of_cell? w _ hx221_7)).trans hx221_7
              replace p221 := eq_true p221
              replace q221 := eq_true q221
              go_wp2_with (first | ((with_reducible refine gate_callee (f := 50) rfl ?_); refine goesL_ (some 21) rfl rfl Tryz.func50 (by kernel_rfl) rfl #[.agg #[.int .i64 ((rd_T40 l0 x7_1).f0), .int .i64 ((rd_T40 l0 x7_1).f1), .int .i64 ((rd_T40 l0 x7_1).f2), .int .i64 ((rd_T40 l0 x7_1).f3), .int .i64 ((rd_T40 l0 x7_1).f4), .int .i64 ((rd_T40 l0 x7_1).f5), .int .i64 ((rd_T40 l0 x7_1).f6), .int .i64 ((rd_T40 l0 x7_1).f7)], .int .i64 3, .int .i64 a1, .int .i64 a2] rfl (by (try simp only [List.map_toArray, List.map_cons, List.map_nil]); first | done | rfl | (simp only [List.length_drop, List.length_take]; rfl)) ?_; (with_reducible refine (onairref06_counts.calls k1 ((rd_T40 l0 x7_1).f0) ((rd_T40 l0 x7_1).f1) ((rd_T40 l0 x7_1).f2) ((rd_T40 l0 x7_1).f3) ((rd_T40 l0 x7_1).f4) ((rd_T40 l0 x7_1).f5) ((rd_T40 l0 x7_1).f6) ((rd_T40 l0 x7_1).f7) 3 a1 a2 true _ A7.out).mono ?_); rintro e w9 ⟨rfl, hb⟩; refine ⟨_, rfl, ?_⟩; have n0_ := Aside0.mk (below_step (by repeat (first | (with_reducible first | exact HB.out | apply below_alloc | apply pw_below_drewN | apply below_drew1) | exact HB.out)) hb); clear HB; have HB := n0_; clear n0_; (try clear hb); (try clear hb2); (try clear hk); (try clear hi); have p223 : 0 ≤ (x7_1 : Int) := of_decide_eq_true (by first | (with_reducible assumption) | assumption); have q223 : x7_1 < (l0.length : Int) := of_decide_eq_true (by first | (with_reducible assumption) | assumption); obtain ⟨ad223, e223, hx223_0, hx223_1, hx223_2, hx223_3, hx223_4, hx223_5, hx223_6, hx223_7⟩ := at_T40 HR0.out x7_1 p223 q223; obtain rfl : ad221 = ad223 := (by injection e223); replace hx223_0 := (HB.out.cell (World.block_lt_of_cell? w _ hx223_0)).trans hx223_0; replace hx223_1 := (HB.out.cell (World.block_lt_of_cell? w _ hx223_1)).trans hx223_1; replace hx223_2 := (HB.out.cell (World.block_lt_of_cell? w _ hx223_2)).trans hx223_2; replace hx223_3 := (HB.out.cell (World.block_lt_of_cell? w _ hx223_3)).trans hx223_3; replace hx223_4 := (HB.out.cell (World.block_lt_of_cell? w _ hx223_4)).trans hx223_4; replace hx223_5 := (HB.out.cell (World.block_lt_of_cell? w _ hx223_5)).trans hx223_5; replace hx223_6 := (HB.out.cell (World.block_lt_of_cell? w _ hx223_6)).trans hx223_6; replace hx223_7 := (HB.out.cell (World.block_lt_of_cell? w _ hx223_7)).trans hx223_7; replace p223 := eq_true p223; replace q223 := eq_true q223))
              go_ret
              exact ⟨by first | rfl | (simp [errW_none, errW_some] <;> rfl) | (simp [*, errW_none, errW_some] <;> rfl), by repeat (first | (with_reducible first | exact HB.out | apply below_alloc | apply pw_below_drewN | apply below_drew1) | exact HB.out)⟩
            · replace c8 := Bool.eq_false_iff.mpr c8
              subst c8
              have H1 : (onairref06_Runs.l0 k1 l0 a1 a2 (wrap64 (x7_1 - 1))) = some r := by rw [if_neg (show ¬ (false = true) by decide)] at H; exact H
              clear H
              have H := H1
              clear H1
              have H' := Aside0.mk H
              clear H
              have p221 : 0 ≤ (x7_1 : Int) := of_decide_eq_true (by first | (with_reducible assumption) | assumption)
              have q221 : x7_1 < (l0.length : Int) := of_decide_eq_true (by first | (with_reducible assumption) | assumption)
              obtain ⟨ad221, e221, hx221_0, hx221_1, hx221_2, hx221_3, hx221_4, hx221_5, hx221_6, hx221_7⟩ := at_T40 HR0.out x7_1 p221 q221
              cases e221
              replace hx221_0 := (HB.out.cell (World.block_lt_of_cell? w _ hx221_0)).trans hx221_0
              replace hx221_1 := (HB.out.cell (World.block_lt_of_cell? w _ hx221_1)).trans hx221_1
              replace hx221_2 := (HB.out.cell (World.block_lt_of_cell? w _ hx221_2)).trans hx221_2
              replace hx221_3 := (HB.out.cell (World.block_lt_of_cell? w _ hx221_3)).trans hx221_3
              replace hx221_4 := (HB.out.cell (World.block_lt_of_cell? w _ hx221_4)).trans hx221_4
              replace hx221_5 := (HB.out.cell (World.block_lt_of_cell? w _ hx221_5)).trans hx221_5
              replace hx221_6 := (HB.out.cell (World.block_lt_of_cell? w _ hx221_6)).trans hx221_6
              replace hx221_7 := (HB.out.cell (World.block_lt_of_cell? w _ hx221_7)).trans hx221_7
              replace p221 := eq_true p221
              replace q221 := eq_true q221
              go_wp2_with (first | ((with_reducible refine gate_callee (f := 50) rfl ?_); refine goesL_ (some 21) rfl rfl Tryz.func50 (by kernel_rfl) rfl #[.agg #[.int .i64 ((rd_T40 l0 x7_1).f0), .int .i64 ((rd_T40 l0 x7_1).f1), .int .i64 ((rd_T40 l0 x7_1).f2), .int .i64 ((rd_T40 l0 x7_1).f3), .int .i64 ((rd_T40 l0 x7_1).f4), .int .i64 ((rd_T40 l0 x7_1).f5), .int .i64 ((rd_T40 l0 x7_1).f6), .int .i64 ((rd_T40 l0 x7_1).f7)], .int .i64 3, .int .i64 a1, .int .i64 a2] rfl (by (try simp only [List.map_toArray, List.map_cons, List.map_nil]); first | done | rfl | (simp only [List.length_drop, List.length_take]; rfl)) ?_; (with_reducible refine (onairref06_counts.calls k1 ((rd_T40 l0 x7_1).f0) ((rd_T40 l0 x7_1).f1) ((rd_T40 l0 x7_1).f2) ((rd_T40 l0 x7_1).f3) ((rd_T40 l0 x7_1).f4) ((rd_T40 l0 x7_1).f5) ((rd_T40 l0 x7_1).f6) ((rd_T40 l0 x7_1).f7) 3 a1 a2 false _ A7.out).mono ?_); rintro e w10 ⟨rfl, hb⟩; refine ⟨_, rfl, ?_⟩; have n0_ := Aside0.mk (below_step (by repeat (first | (with_reducible first | exact HB.out | apply below_alloc | apply pw_below_drewN | apply below_drew1) | exact HB.out)) hb); clear HB; have HB := n0_; clear n0_; (try clear hb); (try clear hb2); (try clear hk); (try clear hi)))
              go_roundg k1
              case measure => have := HK1.out; omega
              case rel => exact ⟨(wrap64 (x7_1 - 1)), (by first | rfl | (simp; done) | (simp [*]; done)), H', ⟨by have := HK1.out; omega⟩, ⟨by repeat (first | (with_reducible first | exact HB.out | apply below_alloc | apply pw_below_drewN | apply below_drew1) | exact HB.out)⟩⟩
          · rw [if_neg c6] at H
            exact absurd H (by simp)
        · rw [if_neg c5] at H
          exact absurd H (by simp)
      · rw [if_neg c4] at H
        have c4b0 : decide (0 ≤ x7_1) = false := decide_eq_false c4
        clear c4
        obtain rfl := Option.some.inj H
        go_wp2
        go_ret
        exact ⟨by first | rfl | (simp [errW_none, errW_some] <;> rfl) | (simp [*, errW_none, errW_some] <;> rfl), by repeat (first | (with_reducible first | exact HB.out | apply below_alloc | apply pw_below_drewN | apply below_drew1) | exact HB.out)⟩

def onairref06_Catchup.l0 : Nat → List (S40) → Int → Int → Int → Option (Int)
  | 0, _, _, _, _ => none
  | k + 1, x0, x1, x2, x7 => if x7 ≥ 0 then (if 0 ≤ x7 then (if x7 < (x0.length : Int) then ((onairref06_counts.f k ((rd_T40 x0 x7).f0) ((rd_T40 x0 x7).f1) ((rd_T40 x0 x7).f2) ((rd_T40 x0 x7).f3) ((rd_T40 x0 x7).f4) ((rd_T40 x0 x7).f5) ((rd_T40 x0 x7).f6) ((rd_T40 x0 x7).f7) 4 x1 x2).bind fun t226 => (if t226 = true then (some ((rd_T40 x0 x7).f5)) else (onairref06_Catchup.l0 k x0 x1 x2 (wrap64 (x7 - 1))))) else (none)) else (none)) else (some 0)
def onairref06_Catchup.f (k : Nat) (l0 : List (S40)) (a1 : Int) (a2 : Int) : Option (Int) := onairref06_Catchup.l0 k l0 a1 a2 (wrap64 ((l0.length : Int) - 1))
set_option maxHeartbeats 8000000 in
set_option maxRecDepth 100000 in
theorem onairref06_Catchup.calls (k : Nat) (A0 : Option Addr) (c0 : Nat) (l0 : List (S40)) (a1 : Int) (a2 : Int) (r : Int) (w : World) (hr0 : Kd.C k40 w A0 l0.length l0) (hc0 : l0.length ≤ c0) (h : onairref06_Catchup.f k l0 a1 a2 = some r) :
    Calls Tryz.prog 21 #[.slice A0 l0.length c0, .int .i64 a1, .int .i64 a2] w fun e w' => e = .returned (.int .i64 r) ∧ Below w.heap.size w w' := by
  have hu40 := Tryz.underlying40
  have HR0 := Aside0.mk hr0
  have HC0 := Aside0.mk hc0
  clear hr0 hc0
  have HB := Aside0.mk (Below.refl w.heap.size w)
  have H : (onairref06_Catchup.l0 k l0 a1 a2 (wrap64 ((l0.length : Int) - 1))) = some r := h
  clear h
  have H' := Aside0.mk H
  clear H
  go_enter Tryz.func21, Tryz.ntmps21
  go_wp2
  go_loopg [7] k (fun kq v7 w' => ∃ (x7_1 : Int), v7 = .int .i64 x7_1 ∧ Aside0 (onairref06_Catchup.l0 kq l0 a1 a2 x7_1 = some r) ∧ Aside0 (kq ≤ k) ∧ Aside0 (Below w.heap.size w w'))
  case atStart => exact ⟨(wrap64 ((l0.length : Int) - 1)), (by first | rfl | (simp; done) | (simp [*]; done)), H', ⟨Nat.le_refl _⟩, ⟨by repeat (first | (with_reducible first | exact HB.out | apply below_alloc | apply pw_below_drewN | apply below_drew1) | exact HB.out)⟩⟩
  case round =>
    clear H'
    try clear c2
    try clear p2
    obtain ⟨x7_1, rfl, HA, HK1, HB⟩ := hrel
    cases gk with
    | zero => exact absurd HA.out (by simp [onairref06_Catchup.l0])
    | succ k1 =>
      have H := HA.out
      clear HA
      simp only [onairref06_Catchup.l0] at H
      by_cases c4 : x7_1 ≥ 0
      · rw [if_pos c4] at H
        have c4b0 : decide (0 ≤ x7_1) = true := decide_eq_true c4
        clear c4
        by_cases c5 : 0 ≤ x7_1
        · rw [if_pos c5] at H
          have c5b0 : decide (0 ≤ x7_1) = true := decide_eq_true c5
          clear c5
          by_cases c6 : x7_1 < (l0.length : Int)
          · rw [if_pos c6] at H
            have c6b0 : decide (x7_1 < (l0.length : Int)) = true := decide_eq_true c6
            clear c6
            replace H := Option.bind_eq_some_iff.mp H
            obtain ⟨t226, A70, H⟩ := H
            replace H : (if t226 = true then (some ((rd_T40 l0 x7_1).f5)) else (onairref06_Catchup.l0 k1 l0 a1 a2 (wrap64 (x7_1 - 1)))) = some r := H
            have A7 := Aside0.mk A70
            clear A70
            by_cases c8 : t226 = true
            · subst c8
              have H1 : (some ((rd_T40 l0 x7_1).f5)) = some r := by rw [if_pos rfl] at H; exact H
              clear H
              have H := H1
              clear H1
              obtain rfl := Option.some.inj H
              have p225 : 0 ≤ (x7_1 : Int) := of_decide_eq_true (by first | (with_reducible assumption) | assumption)
              have q225 : x7_1 < (l0.length : Int) := of_decide_eq_true (by first | (with_reducible assumption) | assumption)
              obtain ⟨ad225, e225, hx225_0, hx225_1, hx225_2, hx225_3, hx225_4, hx225_5, hx225_6, hx225_7⟩ := at_T40 HR0.out x7_1 p225 q225
              cases e225
              replace hx225_0 := (HB.out.cell (World.block_lt_of_cell? w _ hx225_0)).trans hx225_0
              replace hx225_1 := (HB.out.cell (World.block_lt_of_cell? w _ hx225_1)).trans hx225_1
              replace hx225_2 := (HB.out.cell (World.block_lt_of_cell? w _ hx225_2)).trans hx225_2
              replace hx225_3 := (HB.out.cell (World.block_lt_of_cell? w _ hx225_3)).trans hx225_3
              replace hx225_4 := (HB.out.cell (World.block_lt_of_cell? w _ hx225_4)).trans hx225_4
              replace hx225_5 := (HB.out.cell (World.block_lt_of_cell? w _ hx225_5)).trans hx225_5
              replace hx225_6 := (HB.out.cell (World.block_lt_of_cell? w _ hx225_6)).trans hx225_6
              replace hx225_7 := (HB.out.cell (World.block_lt_of_cell? w _ hx225_7)).trans hx225_7
              replace p225 := eq_true p225
              replace q225 := eq_true q225
              go_wp2_with (first | ((with_reducible refine gate_callee (f := 50) rfl ?_); refine goesL_ (some 21) rfl rfl Tryz.func50 (by kernel_rfl) rfl #[.agg #[.int .i64 ((rd_T40 l0 x7_1).f0), .int .i64 ((rd_T40 l0 x7_1).f1), .int .i64 ((rd_T40 l0 x7_1).f2), .int .i64 ((rd_T40 l0 x7_1).f3), .int .i64 ((rd_T40 l0 x7_1).f4), .int .i64 ((rd_T40 l0 x7_1).f5), .int .i64 ((rd_T40 l0 x7_1).f6), .int .i64 ((rd_T40 l0 x7_1).f7)], .int .i64 4, .int .i64 a1, .int .i64 a2] rfl (by (try simp only [List.map_toArray, List.map_cons, List.map_nil]); first | done | rfl | (simp only [List.length_drop, List.length_take]; rfl)) ?_; (with_reducible refine (onairref06_counts.calls k1 ((rd_T40 l0 x7_1).f0) ((rd_T40 l0 x7_1).f1) ((rd_T40 l0 x7_1).f2) ((rd_T40 l0 x7_1).f3) ((rd_T40 l0 x7_1).f4) ((rd_T40 l0 x7_1).f5) ((rd_T40 l0 x7_1).f6) ((rd_T40 l0 x7_1).f7) 4 a1 a2 true _ A7.out).mono ?_); rintro e w9 ⟨rfl, hb⟩; refine ⟨_, rfl, ?_⟩; have n0_ := Aside0.mk (below_step (by repeat (first | (with_reducible first | exact HB.out | apply below_alloc | apply pw_below_drewN | apply below_drew1) | exact HB.out)) hb); clear HB; have HB := n0_; clear n0_; (try clear hb); (try clear hb2); (try clear hk); (try clear hi); have p227 : 0 ≤ (x7_1 : Int) := of_decide_eq_true (by first | (with_reducible assumption) | assumption); have q227 : x7_1 < (l0.length : Int) := of_decide_eq_true (by first | (with_reducible assumption) | assumption); obtain ⟨ad227, e227, hx227_0, hx227_1, hx227_2, hx227_3, hx227_4, hx227_5, hx227_6, hx227_7⟩ := at_T40 HR0.out x7_1 p227 q227; obtain rfl : ad225 = ad227 := (by injection e227); replace hx227_0 := (HB.out.cell (World.block_lt_of_cell? w _ hx227_0)).trans hx227_0; replace hx227_1 := (HB.out.cell (World.block_lt_of_cell? w _ hx227_1)).trans hx227_1; replace hx227_2 := (HB.out.cell (World.block_lt_of_cell? w _ hx227_2)).trans hx227_2; replace hx227_3 := (HB.out.cell (World.block_lt_of_cell? w _ hx227_3)).trans hx227_3; replace hx227_4 := (HB.out.cell (World.block_lt_of_cell? w _ hx227_4)).trans hx227_4; replace hx227_5 := (HB.out.cell (World.block_lt_of_cell? w _ hx227_5)).trans hx227_5; replace hx227_6 := (HB.out.cell (World.block_lt_of_cell? w _ hx227_6)).trans hx227_6; replace hx227_7 := (HB.out.cell (World.block_lt_of_cell? w _ hx227_7)).trans hx227_7; replace p227 := eq_true p227; replace q227 := eq_true q227))
              go_ret
              exact ⟨by first | rfl | (simp [errW_none, errW_some] <;> rfl) | (simp [*, errW_none, errW_some] <;> rfl), by repeat (first | (with_reducible first | exact HB.out | apply below_alloc | apply pw_below_drewN | apply below_drew1) | exact HB.out)⟩
            · replace c8 := Bool.eq_false_iff.mpr c8
              subst c8
              have H1 : (onairref06_Catchup.l0 k1 l0 a1 a2 (wrap64 (x7_1 - 1))) = some r := by rw [if_neg (show ¬ (false = true) by decide)] at H; exact H
              clear H
              have H := H1
              clear H1
              have H' := Aside0.mk H
              clear H
              have p225 : 0 ≤ (x7_1 : Int) := of_decide_eq_true (by first | (with_reducible assumption) | assumption)
              have q225 : x7_1 < (l0.length : Int) := of_decide_eq_true (by first | (with_reducible assumption) | assumption)
              obtain ⟨ad225, e225, hx225_0, hx225_1, hx225_2, hx225_3, hx225_4, hx225_5, hx225_6, hx225_7⟩ := at_T40 HR0.out x7_1 p225 q225
              cases e225
              replace hx225_0 := (HB.out.cell (World.block_lt_of_cell? w _ hx225_0)).trans hx225_0
              replace hx225_1 := (HB.out.cell (World.block_lt_of_cell? w _ hx225_1)).trans hx225_1
              replace hx225_2 := (HB.out.cell (World.block_lt_of_cell? w _ hx225_2)).trans hx225_2
              replace hx225_3 := (HB.out.cell (World.block_lt_of_cell? w _ hx225_3)).trans hx225_3
              replace hx225_4 := (HB.out.cell (World.block_lt_of_cell? w _ hx225_4)).trans hx225_4
              replace hx225_5 := (HB.out.cell (World.block_lt_of_cell? w _ hx225_5)).trans hx225_5
              replace hx225_6 := (HB.out.cell (World.block_lt_of_cell? w _ hx225_6)).trans hx225_6
              replace hx225_7 := (HB.out.cell (World.block_lt_of_cell? w _ hx225_7)).trans hx225_7
              replace p225 := eq_true p225
              replace q225 := eq_true q225
              go_wp2_with (first | ((with_reducible refine gate_callee (f := 50) rfl ?_); refine goesL_ (some 21) rfl rfl Tryz.func50 (by kernel_rfl) rfl #[.agg #[.int .i64 ((rd_T40 l0 x7_1).f0), .int .i64 ((rd_T40 l0 x7_1).f1), .int .i64 ((rd_T40 l0 x7_1).f2), .int .i64 ((rd_T40 l0 x7_1).f3), .int .i64 ((rd_T40 l0 x7_1).f4), .int .i64 ((rd_T40 l0 x7_1).f5), .int .i64 ((rd_T40 l0 x7_1).f6), .int .i64 ((rd_T40 l0 x7_1).f7)], .int .i64 4, .int .i64 a1, .int .i64 a2] rfl (by (try simp only [List.map_toArray, List.map_cons, List.map_nil]); first | done | rfl | (simp only [List.length_drop, List.length_take]; rfl)) ?_; (with_reducible refine (onairref06_counts.calls k1 ((rd_T40 l0 x7_1).f0) ((rd_T40 l0 x7_1).f1) ((rd_T40 l0 x7_1).f2) ((rd_T40 l0 x7_1).f3) ((rd_T40 l0 x7_1).f4) ((rd_T40 l0 x7_1).f5) ((rd_T40 l0 x7_1).f6) ((rd_T40 l0 x7_1).f7) 4 a1 a2 false _ A7.out).mono ?_); rintro e w10 ⟨rfl, hb⟩; refine ⟨_, rfl, ?_⟩; have n0_ := Aside0.mk (below_step (by repeat (first | (with_reducible first | exact HB.out | apply below_alloc | apply pw_below_drewN | apply below_drew1) | exact HB.out)) hb); clear HB; have HB := n0_; clear n0_; (try clear hb); (try clear hb2); (try clear hk); (try clear hi)))
              go_roundg k1
              case measure => have := HK1.out; omega
              case rel => exact ⟨(wrap64 (x7_1 - 1)), (by first | rfl | (simp; done) | (simp [*]; done)), H', ⟨by have := HK1.out; omega⟩, ⟨by repeat (first | (with_reducible first | exact HB.out | apply below_alloc | apply pw_below_drewN | apply below_drew1) | exact HB.out)⟩⟩
          · rw [if_neg c6] at H
            exact absurd H (by simp)
        · rw [if_neg c5] at H
          exact absurd H (by simp)
      · rw [if_neg c4] at H
        have c4b0 : decide (0 ≤ x7_1) = false := decide_eq_false c4
        clear c4
        obtain rfl := Option.some.inj H
        go_wp2
        go_ret
        exact ⟨by first | rfl | (simp [errW_none, errW_some] <;> rfl) | (simp [*, errW_none, errW_some] <;> rfl), by repeat (first | (with_reducible first | exact HB.out | apply below_alloc | apply pw_below_drewN | apply below_drew1) | exact HB.out)⟩

def onairref06_Watersheds.l0 : Nat → List (S40) → Int → List (S65) → Int → Option ((List (S65)))
  | 0, _, _, _, _ => none
  | k + 1, x0, x1, x5, x6 => if x6 < (x0.length : Int) then (if 0 ≤ x6 then (if ((rd_T40 x0 x6).f0) = 6 then ((onairref06_Valid.f k ((rd_T40 x0 x6).f0) ((rd_T40 x0 x6).f1) ((rd_T40 x0 x6).f2) ((rd_T40 x0 x6).f3) ((rd_T40 x0 x6).f4) ((rd_T40 x0 x6).f5) ((rd_T40 x0 x6).f6) ((rd_T40 x0 x6).f7)).bind fun t230 => (if t230 = true then (if ((rd_T40 x0 x6).f6) ≤ x1 then (if x5.length < 8796093022208 then (onairref06_Watersheds.l0 k x0 x1 (x5 ++ [(⟨(rd_T40 x0 x6).f2, (rd_T40 x0 x6).f3⟩ : S65)]) (wrap64 (x6 + 1))) else (none)) else (onairref06_Watersheds.l0 k x0 x1 x5 (wrap64 (x6 + 1)))) else (onairref06_Watersheds.l0 k x0 x1 x5 (wrap64 (x6 + 1))))) else (onairref06_Watersheds.l0 k x0 x1 x5 (wrap64 (x6 + 1)))) else (none)) else (some x5)
def onairref06_Watersheds.f (k : Nat) (l0 : List (S40)) (a1 : Int) : Option ((List (S65))) := onairref06_Watersheds.l0 k l0 a1 ([] : List (S65)) 0
def onairref06_Watersheds.T6 : Bool × List (List Nat × List Nat) := (true, [([], []), ([], []), ([], []), ([1, 2], [1, 2]), ([3], [3]), ([4], [4]), ([], []), ([], []), ([6, 7], [6, 7]), ([8], [8]), ([9], [9]), ([5, 10], [5, 10]), ([11], [11]), ([0, 12], [0, 12]), ([13, 13, 0, 1, 2, 3, 4, 5, 6, 7, 8, 9, 10, 11, 12, 13], [0, 13])])
def onairref06_Watersheds.B6 : List Nat := [0, 0, 0, 6, 14, 30, 0, 0, 192, 448, 960, 2046, 4094, 8191, 16383]
theorem onairref06_Watersheds.tab6 : rtab .any (opsOf Tryz.f23 6) = onairref06_Watersheds.T6 := by kernel_rfl
theorem onairref06_Watersheds.bits6 : waitsOk onairref06_Watersheds.T6.2 onairref06_Watersheds.B6 = true := by kernel_rfl
set_option maxHeartbeats 8000000 in
set_option maxRecDepth 100000 in
theorem onairref06_Watersheds.calls (k : Nat) (A0 : Option Addr) (c0 : Nat) (l0 : List (S40)) (a1 : Int) (r : List (S65)) (w : World) (hr0 : Kd.C k40 w A0 l0.length l0) (hc0 : l0.length ≤ c0) (h : onairref06_Watersheds.f k l0 a1 = some r) :
    Calls Tryz.prog 23 #[.slice A0 l0.length c0, .int .i64 a1] w fun e w' => ∃ v0_ : Value, e = .returned (v0_) ∧ Kd.R k65 65 w' w.heap.size (fun _ => True) v0_ r ∧ Below w.heap.size w w' := by
  have hu40 := Tryz.underlying40
  have hu65 := Tryz.underlying65
  have HR0 := Aside0.mk hr0
  have HC0 := Aside0.mk hc0
  clear hr0 hc0
  have HB := Aside0.mk (Below.refl w.heap.size w)
  have H : (onairref06_Watersheds.l0 k l0 a1 ([] : List (S65)) 0) = some r := h
  clear h
  have H' := Aside0.mk H
  clear H
  go_enter Tryz.func23, Tryz.ntmps23
  go_wp2
  go_loopg [5, 6] k (fun kq v5 v6 w' => ∃ (x5_1 : List (S65)) (x6_1 : Int), v6 = .int .i64 x6_1 ∧ Aside0 (onairref06_Watersheds.l0 kq l0 a1 x5_1 x6_1 = some r) ∧ Aside0 (kq ≤ k) ∧ Aside0 (Kd.R k65 65 w' w.heap.size (fun _ => True) v5 x5_1) ∧ Aside0 (Below w.heap.size w w'))
  case atStart => exact ⟨(([] : List (S65))), (0), (by first | rfl | (simp; done) | (simp [*]; done)), H', ⟨Nat.le_refl _⟩, ⟨by first | exact Kd.R_nil _ _ _ _ _ | exact Kd.N_nil _ _ _ _ _ | exact Kd.V_nil _ _ _ _ _ | exact Kd.Q_nil _ _ _ _ _ | exact Kd.S_nil _ _ _ _ _⟩, ⟨by repeat (first | (with_reducible first | exact HB.out | apply below_alloc | apply pw_below_drewN | apply below_drew1) | exact HB.out)⟩⟩
  case round =>
    clear H'
    try clear c2
    try clear p2
    obtain ⟨x5_1, x6_1, rfl, HA, HK1, HO_5, HB⟩ := hrel
    cases gk with
    | zero => exact absurd HA.out (by simp [onairref06_Watersheds.l0])
    | succ k1 =>
      have H := HA.out
      clear HA
      simp only [onairref06_Watersheds.l0] at H
      by_cases c3 : x6_1 < (l0.length : Int)
      · rw [if_pos c3] at H
        have c3b0 : decide (x6_1 < (l0.length : Int)) = true := decide_eq_true c3
        clear c3
        by_cases c4 : 0 ≤ x6_1
        · rw [if_pos c4] at H
          have c4b0 : decide (0 ≤ x6_1) = true := decide_eq_true c4
          clear c4
          by_cases c5 : ((rd_T40 l0 x6_1).f0) = 6
          · rw [if_pos c5] at H
            have c5b0 : (((rd_T40 l0 x6_1).f0) == 6) = true := beq_iff_eq.mpr c5
            have c5b1 : (((rd_T40 l0 x6_1).f0) != 6) = false := bne_eq_false_iff_eq.mpr c5
            clear c5
            replace H := Option.bind_eq_some_iff.mp H
            obtain ⟨t230, A60, H⟩ := H
            replace H : (if t230 = true then (if ((rd_T40 l0 x6_1).f6) ≤ a1 then (if x5_1.length < 8796093022208 then (onairref06_Watersheds.l0 k1 l0 a1 (x5_1 ++ [(⟨(rd_T40 l0 x6_1).f2, (rd_T40 l0 x6_1).f3⟩ : S65)]) (wrap64 (x6_1 + 1))) else (none)) else (onairref06_Watersheds.l0 k1 l0 a1 x5_1 (wrap64 (x6_1 + 1)))) else (onairref06_Watersheds.l0 k1 l0 a1 x5_1 (wrap64 (x6_1 + 1)))) = some r := H
            have A6 := Aside0.mk A60
            clear A60
            by_cases c7 : t230 = true
            · subst c7
              have H1 : (if ((rd_T40 l0 x6_1).f6) ≤ a1 then (if x5_1.length < 8796093022208 then (onairref06_Watersheds.l0 k1 l0 a1 (x5_1 ++ [(⟨(rd_T40 l0 x6_1).f2, (rd_T40 l0 x6_1).f3⟩ : S65)]) (wrap64 (x6_1 + 1))) else (none)) else (onairref06_Watersheds.l0 k1 l0 a1 x5_1 (wrap64 (x6_1 + 1)))) = some r := by rw [if_pos rfl] at H; exact H
              clear H
              have H := H1
              clear H1
              by_cases c8 : ((rd_T40 l0 x6_1).f6) ≤ a1
              · rw [if_pos c8] at H
                have c8b0 : decide (((rd_T40 l0 x6_1).f6) ≤ a1) = true := decide_eq_true c8
                clear c8
                by_cases c9 : x5_1.length < 8796093022208
                · rw [if_pos c9] at H
                  have LMc9 := Aside0.mk c9
                  clear c9
                  obtain ⟨y234, hy234⟩ : ∃ y_ : List (S65), y_ = (x5_1 ++ [(⟨(rd_T40 l0 x6_1).f2, (rd_T40 l0 x6_1).f3⟩ : S65)]) := ⟨_, rfl⟩
                  replace H : (onairref06_Watersheds.l0 k1 l0 a1 y234 (wrap64 (x6_1 + 1))) = some r := by first | (rw [hy234]; with_reducible exact H) | (have H2_ := (Option.bind_some _ _).symm.trans H; rw [hy234]; with_reducible exact H2_) | (have H2_ := (Option.bind_some _ _).symm.trans H; with_reducible exact H2_) | with_reducible exact H | (rw [hy234]; exact H) | exact H
                  have Ny234 := Aside0.mk hy234
                  clear hy234
                  have H' := Aside0.mk H
                  clear H
                  have p228 : 0 ≤ (x6_1 : Int) := of_decide_eq_true (by first | (with_reducible assumption) | assumption)
                  have q228 : x6_1 < (l0.length : Int) := of_decide_eq_true (by first | (with_reducible assumption) | assumption)
                  obtain ⟨ad228, e228, hx228_0, hx228_1, hx228_2, hx228_3, hx228_4, hx228_5, hx228_6, hx228_7⟩ := at_T40 HR0.out x6_1 p228 q228
                  cases e228
                  replace hx228_0 := (HB.out.cell (World.block_lt_of_cell? w _ hx228_0)).trans hx228_0
                  replace hx228_1 := (HB.out.cell (World.block_lt_of_cell? w _ hx228_1)).trans hx228_1
                  replace hx228_2 := (HB.out.cell (World.block_lt_of_cell? w _ hx228_2)).trans hx228_2
                  replace hx228_3 := (HB.out.cell (World.block_lt_of_cell? w _ hx228_3)).trans hx228_3
                  replace hx228_4 := (HB.out.cell (World.block_lt_of_cell? w _ hx228_4)).trans hx228_4
                  replace hx228_5 := (HB.out.cell (World.block_lt_of_cell? w _ hx228_5)).trans hx228_5
                  replace hx228_6 := (HB.out.cell (World.block_lt_of_cell? w _ hx228_6)).trans hx228_6
                  replace hx228_7 := (HB.out.cell (World.block_lt_of_cell? w _ hx228_7)).trans hx228_7
                  replace p228 := eq_true p228
                  replace q228 := eq_true q228
                  have p229 : 0 ≤ (x6_1 : Int) := of_decide_eq_true (by first | (with_reducible assumption) | assumption)
                  have q229 : x6_1 < (l0.length : Int) := of_decide_eq_true (by first | (with_reducible assumption) | assumption)
                  obtain ⟨ad229, e229, hx229_0, hx229_1, hx229_2, hx229_3, hx229_4, hx229_5, hx229_6, hx229_7⟩ := at_T40 HR0.out x6_1 p229 q229
                  obtain rfl : ad228 = ad229 := (by injection e229)
                  replace hx229_0 := (HB.out.cell (World.block_lt_of_cell? w _ hx229_0)).trans hx229_0
                  replace hx229_1 := (HB.out.cell (World.block_lt_of_cell? w _ hx229_1)).trans hx229_1
                  replace hx229_2 := (HB.out.cell (World.block_lt_of_cell? w _ hx229_2)).trans hx229_2
                  replace hx229_3 := (HB.out.cell (World.block_lt_of_cell? w _ hx229_3)).trans hx229_3
                  replace hx229_4 := (HB.out.cell (World.block_lt_of_cell? w _ hx229_4)).trans hx229_4
                  replace hx229_5 := (HB.out.cell (World.block_lt_of_cell? w _ hx229_5)).trans hx229_5
                  replace hx229_6 := (HB.out.cell (World.block_lt_of_cell? w _ hx229_6)).trans hx229_6
                  replace hx229_7 := (HB.out.cell (World.block_lt_of_cell? w _ hx229_7)).trans hx229_7
                  replace p229 := eq_true p229
                  replace q229 := eq_true q229
                  try go_wp2_with (first | (go_at_call 54; (with_reducible refine (onairref06_Valid.calls k1 ((rd_T40 l0 x6_1).f0) ((rd_T40 l0 x6_1).f1) ((rd_T40 l0 x6_1).f2) ((rd_T40 l0 x6_1).f3) ((rd_T40 l0 x6_1).f4) ((rd_T40 l0 x6_1).f5) ((rd_T40 l0 x6_1).f6) ((rd_T40 l0 x6_1).f7) true _ A6.out).mono ?_); rintro e w10 ⟨rfl, hb⟩; have n0_ := Aside0.mk (Kd.R_below (by (with_reducible repeat (first | apply Kd.R_alloc | apply Kd.R_drewN | apply Kd.R_drew)); exact HO_5.out) hb); have n1_ := Aside0.mk (below_step (by repeat (first | (with_reducible first | exact HB.out | apply below_alloc | apply pw_below_drewN | apply below_drew1) | exact HB.out)) hb); clear HO_5; clear HB; have HO_5 := n0_; have HB := n1_; clear n0_ n1_; (try clear hb); (try clear hb2); (try clear hk); (try clear hi); have p231 : 0 ≤ (x6_1 : Int) := of_decide_eq_true (by first | (with_reducible assumption) | assumption); have q231 : x6_1 < (l0.length : Int) := of_decide_eq_true (by first | (with_reducible assumption) | assumption); obtain ⟨ad231, e231, hx231_0, hx231_1, hx231_2, hx231_3, hx231_4, hx231_5, hx231_6, hx231_7⟩ := at_T40 HR0.out x6_1 p231 q231; obtain rfl : ad228 = ad231 := (by injection e231); replace hx231_0 := (HB.out.cell (World.block_lt_of_cell? w _ hx231_0)).trans hx231_0; replace hx231_1 := (HB.out.cell (World.block_lt_of_cell? w _ hx231_1)).trans hx231_1; replace hx231_2 := (HB.out.cell (World.block_lt_of_cell? w _ hx231_2)).trans hx231_2; replace hx231_3 := (HB.out.cell (World.block_lt_of_cell? w _ hx231_3)).trans hx231_3; replace hx231_4 := (HB.out.cell (World.block_lt_of_cell? w _ hx231_4)).trans hx231_4; replace hx231_5 := (HB.out.cell (World.block_lt_of_cell? w _ hx231_5)).trans hx231_5; replace hx231_6 := (HB.out.cell (World.block_lt_of_cell? w _ hx231_6)).trans hx231_6; replace hx231_7 := (HB.out.cell (World.block_lt_of_cell? w _ hx231_7)).trans hx231_7; replace p231 := eq_true p231; replace q231 := eq_true q231))
                  have n0_ := Aside0.mk (Kd.R_drew HO_5.out)
                  have n1_ := Aside0.mk (below_drew1 HB.out)
                  clear HO_5
                  clear HB
                  have HO_5 := n0_
                  have HB := n1_
                  clear n0_ n1_
                  have p232 : 0 ≤ (x6_1 : Int) := of_decide_eq_true (by first | (with_reducible assumption) | assumption)
                  have q232 : x6_1 < (l0.length : Int) := of_decide_eq_true (by first | (with_reducible assumption) | assumption)
                  obtain ⟨ad232, e232, hx232_0, hx232_1, hx232_2, hx232_3, hx232_4, hx232_5, hx232_6, hx232_7⟩ := at_T40 HR0.out x6_1 p232 q232
                  have hw232_7 := hx232_7
                  have hw232_6 := hx232_6
                  have hw232_5 := hx232_5
                  have hw232_4 := hx232_4
                  have hw232_3 := hx232_3
                  have hw232_2 := hx232_2
                  have hw232_1 := hx232_1
                  have hw232_0 := hx232_0
                  obtain rfl : ad228 = ad232 := (by injection e232)
                  replace hx232_0 := (HB.out.cell (World.block_lt_of_cell? w _ hx232_0)).trans hx232_0
                  replace hx232_1 := (HB.out.cell (World.block_lt_of_cell? w _ hx232_1)).trans hx232_1
                  replace hx232_2 := (HB.out.cell (World.block_lt_of_cell? w _ hx232_2)).trans hx232_2
                  replace hx232_3 := (HB.out.cell (World.block_lt_of_cell? w _ hx232_3)).trans hx232_3
                  replace hx232_4 := (HB.out.cell (World.block_lt_of_cell? w _ hx232_4)).trans hx232_4
                  replace hx232_5 := (HB.out.cell (World.block_lt_of_cell? w _ hx232_5)).trans hx232_5
                  replace hx232_6 := (HB.out.cell (World.block_lt_of_cell? w _ hx232_6)).trans hx232_6
                  replace hx232_7 := (HB.out.cell (World.block_lt_of_cell? w _ hx232_7)).trans hx232_7
                  replace p232 := eq_true p232
                  replace q232 := eq_true q232
                  have p233 : 0 ≤ (x6_1 : Int) := of_decide_eq_true (by first | (with_reducible assumption) | assumption)
                  have q233 : x6_1 < (l0.length : Int) := of_decide_eq_true (by first | (with_reducible assumption) | assumption)
                  obtain ⟨ad233, e233, hx233_0, hx233_1, hx233_2, hx233_3, hx233_4, hx233_5, hx233_6, hx233_7⟩ := at_T40 HR0.out x6_1 p233 q233
                  have hw233_7 := hx233_7
                  have hw233_6 := hx233_6
                  have hw233_5 := hx233_5
                  have hw233_4 := hx233_4
                  have hw233_3 := hx233_3
                  have hw233_2 := hx233_2
                  have hw233_1 := hx233_1
                  have hw233_0 := hx233_0
                  obtain rfl : ad228 = ad233 := (by injection e233)
                  replace hx233_0 := (HB.out.cell (World.block_lt_of_cell? w _ hx233_0)).trans hx233_0
                  replace hx233_1 := (HB.out.cell (World.block_lt_of_cell? w _ hx233_1)).trans hx233_1
                  replace hx233_2 := (HB.out.cell (World.block_lt_of_cell? w _ hx233_2)).trans hx233_2
                  replace hx233_3 := (HB.out.cell (World.block_lt_of_cell? w _ hx233_3)).trans hx233_3
                  replace hx233_4 := (HB.out.cell (World.block_lt_of_cell? w _ hx233_4)).trans hx233_4
                  replace hx233_5 := (HB.out.cell (World.block_lt_of_cell? w _ hx233_5)).trans hx233_5
                  replace hx233_6 := (HB.out.cell (World.block_lt_of_cell? w _ hx233_6)).trans hx233_6
                  replace hx233_7 := (HB.out.cell (World.block_lt_of_cell? w _ hx233_7)).trans hx233_7
                  replace p233 := eq_true p233
                  replace q233 := eq_true q233
                  refine start_ (n := 15) (S := fun w' => w'.cell? (ad228.add ((x6_1).toNat * 8)) = some (.int .i64 ((rd_T40 l0 x6_1).f0)) ∧ w'.cell? ⟨(ad228.add ((x6_1).toNat * 8)).block, (ad228.add ((x6_1).toNat * 8)).off + 1, none⟩ = some (.int .i64 ((rd_T40 l0 x6_1).f1)) ∧ w'.cell? ⟨(ad228.add ((x6_1).toNat * 8)).block, (ad228.add ((x6_1).toNat * 8)).off + 2, none⟩ = some (.int .i64 ((rd_T40 l0 x6_1).f2)) ∧ w'.cell? ⟨(ad228.add ((x6_1).toNat * 8)).block, (ad228.add ((x6_1).toNat * 8)).off + 3, none⟩ = some (.int .i64 ((rd_T40 l0 x6_1).f3)) ∧ w'.cell? ⟨(ad228.add ((x6_1).toNat * 8)).block, (ad228.add ((x6_1).toNat * 8)).off + 4, none⟩ = some (.int .i64 ((rd_T40 l0 x6_1).f4)) ∧ w'.cell? ⟨(ad228.add ((x6_1).toNat * 8)).block, (ad228.add ((x6_1).toNat * 8)).off + 5, none⟩ = some (.int .i64 ((rd_T40 l0 x6_1).f5)) ∧ w'.cell? ⟨(ad228.add ((x6_1).toNat * 8)).block, (ad228.add ((x6_1).toNat * 8)).off + 6, none⟩ = some (.int .i64 ((rd_T40 l0 x6_1).f6)) ∧ w'.cell? ⟨(ad228.add ((x6_1).toNat * 8)).block, (ad228.add ((x6_1).toNat * 8)).off + 7, none⟩ = some (.int .i64 ((rd_T40 l0 x6_1).f7)) ∧ w'.cell? (ad228.add ((x6_1).toNat * 8)) = some (.int .i64 ((rd_T40 l0 x6_1).f0)) ∧ w'.cell? ⟨(ad228.add ((x6_1).toNat * 8)).block, (ad228.add ((x6_1).toNat * 8)).off + 1, none⟩ = some (.int .i64 ((rd_T40 l0 x6_1).f1)) ∧ w'.cell? ⟨(ad228.add ((x6_1).toNat * 8)).block, (ad228.add ((x6_1).toNat * 8)).off + 2, none⟩ = some (.int .i64 ((rd_T40 l0 x6_1).f2)) ∧ w'.cell? ⟨(ad228.add ((x6_1).toNat * 8)).block, (ad228.add ((x6_1).toNat * 8)).off + 3, none⟩ = some (.int .i64 ((rd_T40 l0 x6_1).f3)) ∧ w'.cell? ⟨(ad228.add ((x6_1).toNat * 8)).block, (ad228.add ((x6_1).toNat * 8)).off + 4, none⟩ = some (.int .i64 ((rd_T40 l0 x6_1).f4)) ∧ w'.cell? ⟨(ad228.add ((x6_1).toNat * 8)).block, (ad228.add ((x6_1).toNat * 8)).off + 5, none⟩ = some (.int .i64 ((rd_T40 l0 x6_1).f5)) ∧ w'.cell? ⟨(ad228.add ((x6_1).toNat * 8)).block, (ad228.add ((x6_1).toNat * 8)).off + 6, none⟩ = some (.int .i64 ((rd_T40 l0 x6_1).f6)) ∧ w'.cell? ⟨(ad228.add ((x6_1).toNat * 8)).block, (ad228.add ((x6_1).toNat * 8)).off + 7, none⟩ = some (.int .i64 ((rd_T40 l0 x6_1).f7))) (ds := []) #[false, false, false, false, false, false, false, false, false, false, false, false, false, false, false] (by kernel_rfl) rfl rfl ⟨((HB.out.cell (World.block_lt_of_cell? w _ hw232_0)).trans hw232_0), ((HB.out.cell (World.block_lt_of_cell? w _ hw232_1)).trans hw232_1), ((HB.out.cell (World.block_lt_of_cell? w _ hw232_2)).trans hw232_2), ((HB.out.cell (World.block_lt_of_cell? w _ hw232_3)).trans hw232_3), ((HB.out.cell (World.block_lt_of_cell? w _ hw232_4)).trans hw232_4), ((HB.out.cell (World.block_lt_of_cell? w _ hw232_5)).trans hw232_5), ((HB.out.cell (World.block_lt_of_cell? w _ hw232_6)).trans hw232_6), ((HB.out.cell (World.block_lt_of_cell? w _ hw232_7)).trans hw232_7), ((HB.out.cell (World.block_lt_of_cell? w _ hw233_0)).trans hw233_0), ((HB.out.cell (World.block_lt_of_cell? w _ hw233_1)).trans hw233_1), ((HB.out.cell (World.block_lt_of_cell? w _ hw233_2)).trans hw233_2), ((HB.out.cell (World.block_lt_of_cell? w _ hw233_3)).trans hw233_3), ((HB.out.cell (World.block_lt_of_cell? w _ hw233_4)).trans hw233_4), ((HB.out.cell (World.block_lt_of_cell? w _ hw233_5)).trans hw233_5), ((HB.out.cell (World.block_lt_of_cell? w _ hw233_6)).trans hw233_6), ((HB.out.cell (World.block_lt_of_cell? w _ hw233_7)).trans hw233_7)⟩ (fun hHeld => ?_); refine with_tabW onairref06_Watersheds.tab6 onairref06_Watersheds.bits6 (fun HT_ HW_ => ?_)
                  generalize w10.drew = w11 at HO_5 HB hx232_0 hx232_1 hx232_2 hx232_3 hx232_4 hx232_5 hx232_6 hx232_7 hx233_0 hx233_1 hx233_2 hx233_3 hx233_4 hx233_5 hx233_6 hx233_7 hHeld ⊢
                  refine pure_ (i := 0) (N := some 35) (v := ?_) (a' := ?_) #[true, false, false, false, false, false, false, false, false, false, false, false, false, false, false] rfl rfl (any_of HT_.out (by kernel_rfl)) (fun _ _ _ h => h) (Or.inl ⟨by rfl, ?_⟩) ?_ ?_
                  rotate_left
                  · intro w'
                    go_simp
                    with_reducible rfl
                  rotate_left
                  · simp only [Act.put, List.setIfInBounds_toArray, List.set_cons_zero, List.set_cons_succ, i64_w, i32_w]
                    rfl
                  refine pure_ (i := 1) (N := some 36) (v := ?_) (a' := ?_) #[true, true, false, false, false, false, false, false, false, false, false, false, false, false, false] rfl rfl (any_of HT_.out (by kernel_rfl)) (fun _ _ _ h => h) (Or.inl ⟨by rfl, ?_⟩) ?_ ?_
                  rotate_left
                  · intro w'
                    go_simp
                    with_reducible rfl
                  rotate_left
                  · simp only [Act.put, List.setIfInBounds_toArray, List.set_cons_zero, List.set_cons_succ, i64_w, i32_w]
                    rfl
                  refine pure_ (i := 2) (N := some 37) (v := ?_) (a' := ?_) #[true, true, true, false, false, false, false, false, false, false, false, false, false, false, false] rfl rfl (any_of HT_.out (by kernel_rfl)) (fun _ _ _ h => h) (Or.inl ⟨by rfl, ?_⟩) ?_ ?_
                  rotate_left
                  · intro w'
                    go_simp
                    with_reducible rfl
                  rotate_left
                  · simp only [Act.put, List.setIfInBounds_toArray, List.set_cons_zero, List.set_cons_succ, i64_w, i32_w]
                    rfl
                  refine pure_ (i := 3) (N := some 38) (v := ?_) (a' := ?_) #[true, true, true, true, false, false, false, false, false, false, false, false, false, false, false] rfl rfl (any_of HT_.out (by kernel_rfl)) (fun _ _ _ h => h) (Or.inl ⟨by rfl, ?_⟩) ?_ ?_
                  rotate_left
                  · intro w'
                    go_simp
                    with_reducible rfl
                  rotate_left
                  · simp only [Act.put, List.setIfInBounds_toArray, List.set_cons_zero, List.set_cons_succ, i64_w, i32_w]
                    rfl
                  refine pure_ (i := 4) (N := some 39) (v := ?_) (a' := ?_) #[true, true, true, true, true, false, false, false, false, false, false, false, false, false, false] rfl rfl (any_of HT_.out (by kernel_rfl)) (fun _ _ _ h => h) (Or.inl ⟨by rfl, ?_⟩) ?_ ?_
                  rotate_left
                  · intro w'
                    go_simp
                    with_reducible rfl
                  rotate_left
                  · simp only [Act.put, List.setIfInBounds_toArray, List.set_cons_zero, List.set_cons_succ, i64_w, i32_w]
                    rfl
                  refine pure_ (i := 6) (N := some 41) (v := ?_) (a' := ?_) #[true, true, true, true, true, false, true, false, false, false, false, false, false, false, false] rfl rfl (any_of HT_.out (by kernel_rfl)) (fun _ _ _ h => h) (Or.inl ⟨by rfl, ?_⟩) ?_ ?_
                  rotate_left
                  · intro w'
                    go_simp
                    with_reducible rfl
                  rotate_left
                  · simp only [Act.put, List.setIfInBounds_toArray, List.set_cons_zero, List.set_cons_succ, i64_w, i32_w]
                    rfl
                  refine pure_ (i := 7) (N := some 42) (v := ?_) (a' := ?_) #[true, true, true, true, true, false, true, true, false, false, false, false, false, false, false] rfl rfl (any_of HT_.out (by kernel_rfl)) (fun _ _ _ h => h) (Or.inl ⟨by rfl, ?_⟩) ?_ ?_
                  rotate_left
                  · intro w'
                    go_simp
                    with_reducible rfl
                  rotate_left
                  · simp only [Act.put, List.setIfInBounds_toArray, List.set_cons_zero, List.set_cons_succ, i64_w, i32_w]
                    rfl
                  refine pure_ (i := 8) (N := some 43) (v := ?_) (a' := ?_) #[true, true, true, true, true, false, true, true, true, false, false, false, false, false, false] rfl rfl (any_of HT_.out (by kernel_rfl)) (fun _ _ _ h => h) (Or.inl ⟨by rfl, ?_⟩) ?_ ?_
                  rotate_left
                  · intro w'
                    go_simp
                    with_reducible rfl
                  rotate_left
                  · simp only [Act.put, List.setIfInBounds_toArray, List.set_cons_zero, List.set_cons_succ, i64_w, i32_w]
                    rfl
                  refine pure_ (i := 9) (N := some 44) (v := ?_) (a' := ?_) #[true, true, true, true, true, false, true, true, true, true, false, false, false, false, false] rfl rfl (any_of HT_.out (by kernel_rfl)) (fun _ _ _ h => h) (Or.inl ⟨by rfl, ?_⟩) ?_ ?_
                  rotate_left
                  · intro w'
                    go_simp
                    with_reducible rfl
                  rotate_left
                  · simp only [Act.put, List.setIfInBounds_toArray, List.set_cons_zero, List.set_cons_succ, i64_w, i32_w]
                    rfl
                  refine take_ (i := 5) (N := some 40) (v := ?_) (a' := ?_) #[true, true, true, true, true, true, true, true, true, true, false, false, false, false, false] rfl rfl (take_ofW HT_.out HW_.out (by kernel_rfl)) (fun _ _ _ h => h) (Or.inl ⟨by rfl, ?_⟩) hHeld ?_ ?_
                  rotate_left
                  · rintro w' ⟨s0, s1, s2, s3, s4, s5, s6, s7, s8, s9, s10, s11, s12, s13, s14, s15⟩
                    go_simp
                    with_reducible rfl
                  rotate_left
                  · simp only [Act.put, List.setIfInBounds_toArray, List.set_cons_zero, List.set_cons_succ, i64_w, i32_w]
                    rfl
                  refine take_ (i := 10) (N := some 45) (v := ?_) (a' := ?_) #[true, true, true, true, true, true, true, true, true, true, true, false, false, false, false] rfl rfl (take_ofW HT_.out HW_.out (by kernel_rfl)) (fun _ _ _ h => h) (Or.inl ⟨by rfl, ?_⟩) hHeld ?_ ?_
                  rotate_left
                  · rintro w' ⟨s0, s1, s2, s3, s4, s5, s6, s7, s8, s9, s10, s11, s12, s13, s14, s15⟩
                    go_simp
                    with_reducible rfl
                  rotate_left
                  · simp only [Act.put, List.setIfInBounds_toArray, List.set_cons_zero, List.set_cons_succ, i64_w, i32_w]
                    rfl
                  refine pure_ (i := 11) (N := some 46) (v := ?_) (a' := ?_) #[true, true, true, true, true, true, true, true, true, true, true, true, false, false, false] rfl rfl (any_of HT_.out (by kernel_rfl)) (fun _ _ _ h => h) (Or.inl ⟨by rfl, ?_⟩) ?_ ?_
                  rotate_left
                  · intro w'
                    go_simp
                    with_reducible rfl
                  rotate_left
                  · simp only [Act.put, List.setIfInBounds_toArray, List.set_cons_zero, List.set_cons_succ, i64_w, i32_w]
                    rfl
                  refine one_ (i := 12) (N := some 47) #[true, true, true, true, true, true, true, true, true, true, true, true, true, false, false] rfl rfl (one_of HT_.out (by kernel_rfl)) (by decide) (fun K hK => ?_)
                  refine value_ (w1 := ?_) (v := ?_) (by rfl) rfl ?_ ?_
                  rotate_left 2
                  · go_simp
                    constructor
                    · rfl
                    · rfl
                  refine hK.out _ _ ⟨(World.cell?_alloc_lt _ _ _ (World.block_lt_of_cell? _ _ (((HB.out.cell (World.block_lt_of_cell? w _ hw232_0)).trans hw232_0)))).trans (((HB.out.cell (World.block_lt_of_cell? w _ hw232_0)).trans hw232_0)), (World.cell?_alloc_lt _ _ _ (World.block_lt_of_cell? _ _ (((HB.out.cell (World.block_lt_of_cell? w _ hw232_1)).trans hw232_1)))).trans (((HB.out.cell (World.block_lt_of_cell? w _ hw232_1)).trans hw232_1)), (World.cell?_alloc_lt _ _ _ (World.block_lt_of_cell? _ _ (((HB.out.cell (World.block_lt_of_cell? w _ hw232_2)).trans hw232_2)))).trans (((HB.out.cell (World.block_lt_of_cell? w _ hw232_2)).trans hw232_2)), (World.cell?_alloc_lt _ _ _ (World.block_lt_of_cell? _ _ (((HB.out.cell (World.block_lt_of_cell? w _ hw232_3)).trans hw232_3)))).trans (((HB.out.cell (World.block_lt_of_cell? w _ hw232_3)).trans hw232_3)), (World.cell?_alloc_lt _ _ _ (World.block_lt_of_cell? _ _ (((HB.out.cell (World.block_lt_of_cell? w _ hw232_4)).trans hw232_4)))).trans (((HB.out.cell (World.block_lt_of_cell? w _ hw232_4)).trans hw232_4)), (World.cell?_alloc_lt _ _ _ (World.block_lt_of_cell? _ _ (((HB.out.cell (World.block_lt_of_cell? w _ hw232_5)).trans hw232_5)))).trans (((HB.out.cell (World.block_lt_of_cell? w _ hw232_5)).trans hw232_5)), (World.cell?_alloc_lt _ _ _ (World.block_lt_of_cell? _ _ (((HB.out.cell (World.block_lt_of_cell? w _ hw232_6)).trans hw232_6)))).trans (((HB.out.cell (World.block_lt_of_cell? w _ hw232_6)).trans hw232_6)), (World.cell?_alloc_lt _ _ _ (World.block_lt_of_cell? _ _ (((HB.out.cell (World.block_lt_of_cell? w _ hw232_7)).trans hw232_7)))).trans (((HB.out.cell (World.block_lt_of_cell? w _ hw232_7)).trans hw232_7)), (World.cell?_alloc_lt _ _ _ (World.block_lt_of_cell? _ _ (((HB.out.cell (World.block_lt_of_cell? w _ hw233_0)).trans hw233_0)))).trans (((HB.out.cell (World.block_lt_of_cell? w _ hw233_0)).trans hw233_0)), (World.cell?_alloc_lt _ _ _ (World.block_lt_of_cell? _ _ (((HB.out.cell (World.block_lt_of_cell? w _ hw233_1)).trans hw233_1)))).trans (((HB.out.cell (World.block_lt_of_cell? w _ hw233_1)).trans hw233_1)), (World.cell?_alloc_lt _ _ _ (World.block_lt_of_cell? _ _ (((HB.out.cell (World.block_lt_of_cell? w _ hw233_2)).trans hw233_2)))).trans (((HB.out.cell (World.block_lt_of_cell? w _ hw233_2)).trans hw233_2)), (World.cell?_alloc_lt _ _ _ (World.block_lt_of_cell? _ _ (((HB.out.cell (World.block_lt_of_cell? w _ hw233_3)).trans hw233_3)))).trans (((HB.out.cell (World.block_lt_of_cell? w _ hw233_3)).trans hw233_3)), (World.cell?_alloc_lt _ _ _ (World.block_lt_of_cell? _ _ (((HB.out.cell (World.block_lt_of_cell? w _ hw233_4)).trans hw233_4)))).trans (((HB.out.cell (World.block_lt_of_cell? w _ hw233_4)).trans hw233_4)), (World.cell?_alloc_lt _ _ _ (World.block_lt_of_cell? _ _ (((HB.out.cell (World.block_lt_of_cell? w _ hw233_5)).trans hw233_5)))).trans (((HB.out.cell (World.block_lt_of_cell? w _ hw233_5)).trans hw233_5)), (World.cell?_alloc_lt _ _ _ (World.block_lt_of_cell? _ _ (((HB.out.cell (World.block_lt_of_cell? w _ hw233_6)).trans hw233_6)))).trans (((HB.out.cell (World.block_lt_of_cell? w _ hw233_6)).trans hw233_6)), (World.cell?_alloc_lt _ _ _ (World.block_lt_of_cell? _ _ (((HB.out.cell (World.block_lt_of_cell? w _ hw233_7)).trans hw233_7)))).trans (((HB.out.cell (World.block_lt_of_cell? w _ hw233_7)).trans hw233_7))⟩ (fun hHeld => ?_)
                  clear hK K
                  refine norm_ (a' := ?_) ?_ ?_
                  rotate_left
                  · show Act.put _ (some 47) _ = _
                    simp only [Act.put, List.setIfInBounds_toArray, List.set_cons_zero, List.set_cons_succ, i64_w, i32_w]
                    rfl
                  refine one_ (i := 13) (N := some 48) #[true, true, true, true, true, true, true, true, true, true, true, true, true, true, false] rfl rfl (one_of HT_.out (by kernel_rfl)) (by decide) (fun K hK => ?_)
                  refine Kd.R_append_step k65 (w0 := w) w.heap.size (by rfl) (.tmp 35) (.tmp 47) 34 65 (.agg #[(.int .i64 0), (.int .i64 0)]) 16 rfl Tryz.underlying34 info65 rfl (by decide) (by omega) u5 x5_1 (⟨(rd_T40 l0 x6_1).f2, (rd_T40 l0 x6_1).f3⟩ : S65) [.int .i64 ((rd_T40 l0 x6_1).f2), .int .i64 ((rd_T40 l0 x6_1).f3)] (fun _ => True) (fun _ => False) rfl rfl ?aP (fun _ hk => hk.elim) ?aF ?aO ?aB ?aS ?aL ?_
                  (case aP => exact k65_mkM _ _ _ (⟨(rd_T40 l0 x6_1).f2, (rd_T40 l0 x6_1).f3⟩ : S65))
                  (case aB => exact (by repeat (first | (with_reducible first | exact HB.out | apply below_alloc | apply pw_below_drewN | apply below_drew1) | exact HB.out)))
                  (case aF => exact (fun _ _ => trivial))
                  (case aO => exact (by (with_reducible repeat (first | apply Kd.R_alloc | apply Kd.R_drewN | apply Kd.R_drew)); exact HO_5.out))
                  (case aS => exact (below_size (by repeat (first | (with_reducible first | exact HB.out | apply below_alloc | apply pw_below_drewN | apply below_drew1) | exact HB.out))))
                  (case aL => have := LMc9.out; omega)
                  intro v235 w12 ho hb hg hat
                  rw [← Ny234.out] at ho
                  have n0_ := Aside0.mk (hb)
                  have n1_ := Aside0.mk (ho)
                  clear HB
                  clear HO_5
                  have HB := n0_
                  have HO236 := n1_
                  clear n0_ n1_
                  clear ho hb hg hat
                  refine hK.out _ _ ⟨((HB.out.cell (World.block_lt_of_cell? w _ hw232_0)).trans hw232_0), ((HB.out.cell (World.block_lt_of_cell? w _ hw232_1)).trans hw232_1), ((HB.out.cell (World.block_lt_of_cell? w _ hw232_2)).trans hw232_2), ((HB.out.cell (World.block_lt_of_cell? w _ hw232_3)).trans hw232_3), ((HB.out.cell (World.block_lt_of_cell? w _ hw232_4)).trans hw232_4), ((HB.out.cell (World.block_lt_of_cell? w _ hw232_5)).trans hw232_5), ((HB.out.cell (World.block_lt_of_cell? w _ hw232_6)).trans hw232_6), ((HB.out.cell (World.block_lt_of_cell? w _ hw232_7)).trans hw232_7), ((HB.out.cell (World.block_lt_of_cell? w _ hw233_0)).trans hw233_0), ((HB.out.cell (World.block_lt_of_cell? w _ hw233_1)).trans hw233_1), ((HB.out.cell (World.block_lt_of_cell? w _ hw233_2)).trans hw233_2), ((HB.out.cell (World.block_lt_of_cell? w _ hw233_3)).trans hw233_3), ((HB.out.cell (World.block_lt_of_cell? w _ hw233_4)).trans hw233_4), ((HB.out.cell (World.block_lt_of_cell? w _ hw233_5)).trans hw233_5), ((HB.out.cell (World.block_lt_of_cell? w _ hw233_6)).trans hw233_6), ((HB.out.cell (World.block_lt_of_cell? w _ hw233_7)).trans hw233_7)⟩ (fun hHeld => ?_)
                  clear hK K
                  refine norm_ (a' := ?_) ?_ ?_
                  rotate_left
                  · show Act.put _ (some 48) _ = _
                    simp only [Act.put, List.setIfInBounds_toArray, List.set_cons_zero, List.set_cons_succ, i64_w, i32_w]
                    rfl
                  refine pure_ (i := 14) (N := some 5) (v := ?_) (a' := ?_) #[true, true, true, true, true, true, true, true, true, true, true, true, true, true, true] rfl rfl (any_of HT_.out (by kernel_rfl)) (fun _ _ _ h => h) (Or.inl ⟨by rfl, ?_⟩) ?_ ?_
                  rotate_left
                  · intro w'
                    go_simp
                    with_reducible rfl
                  rotate_left
                  · simp only [Act.put, List.setIfInBounds_toArray, List.set_cons_zero, List.set_cons_succ, i64_w, i32_w]
                    rfl
                  refine done_ (done_of HT_.out (by kernel_rfl)) ?_
                  try go_wp2
                  go_roundg k1
                  case measure => have := HK1.out; omega
                  case rel => exact ⟨(y234), (wrap64 (x6_1 + 1)), (by first | rfl | (simp; done) | (simp [*]; done)), H', ⟨by have := HK1.out; omega⟩, ⟨by (with_reducible repeat (first | apply Kd.R_alloc | apply Kd.R_drewN | apply Kd.R_drew)); exact HO236.out⟩, ⟨by repeat (first | (with_reducible first | exact HB.out | apply below_alloc | apply pw_below_drewN | apply below_drew1) | exact HB.out)⟩⟩
                · rw [if_neg c9] at H
                  exact absurd H (by simp)
              · rw [if_neg c8] at H
                have c8b0 : decide (((rd_T40 l0 x6_1).f6) ≤ a1) = false := decide_eq_false c8
                clear c8
                have H' := Aside0.mk H
                clear H
                have p228 : 0 ≤ (x6_1 : Int) := of_decide_eq_true (by first | (with_reducible assumption) | assumption)
                have q228 : x6_1 < (l0.length : Int) := of_decide_eq_true (by first | (with_reducible assumption) | assumption)
                obtain ⟨ad228, e228, hx228_0, hx228_1, hx228_2, hx228_3, hx228_4, hx228_5, hx228_6, hx228_7⟩ := at_T40 HR0.out x6_1 p228 q228
                cases e228
                replace hx228_0 := (HB.out.cell (World.block_lt_of_cell? w _ hx228_0)).trans hx228_0
                replace hx228_1 := (HB.out.cell (World.block_lt_of_cell? w _ hx228_1)).trans hx228_1
                replace hx228_2 := (HB.out.cell (World.block_lt_of_cell? w _ hx228_2)).trans hx228_2
                replace hx228_3 := (HB.out.cell (World.block_lt_of_cell? w _ hx228_3)).trans hx228_3
                replace hx228_4 := (HB.out.cell (World.block_lt_of_cell? w _ hx228_4)).trans hx228_4
                replace hx228_5 := (HB.out.cell (World.block_lt_of_cell? w _ hx228_5)).trans hx228_5
                replace hx228_6 := (HB.out.cell (World.block_lt_of_cell? w _ hx228_6)).trans hx228_6
                replace hx228_7 := (HB.out.cell (World.block_lt_of_cell? w _ hx228_7)).trans hx228_7
                replace p228 := eq_true p228
                replace q228 := eq_true q228
                have p229 : 0 ≤ (x6_1 : Int) := of_decide_eq_true (by first | (with_reducible assumption) | assumption)
                have q229 : x6_1 < (l0.length : Int) := of_decide_eq_true (by first | (with_reducible assumption) | assumption)
                obtain ⟨ad229, e229, hx229_0, hx229_1, hx229_2, hx229_3, hx229_4, hx229_5, hx229_6, hx229_7⟩ := at_T40 HR0.out x6_1 p229 q229
                obtain rfl : ad228 = ad229 := (by injection e229)
                replace hx229_0 := (HB.out.cell (World.block_lt_of_cell? w _ hx229_0)).trans hx229_0
                replace hx229_1 := (HB.out.cell (World.block_lt_of_cell? w _ hx229_1)).trans hx229_1
                replace hx229_2 := (HB.out.cell (World.block_lt_of_cell? w _ hx229_2)).trans hx229_2
                replace hx229_3 := (HB.out.cell (World.block_lt_of_cell? w _ hx229_3)).trans hx229_3
                replace hx229_4 := (HB.out.cell (World.block_lt_of_cell? w _ hx229_4)).trans hx229_4
                replace hx229_5 := (HB.out.cell (World.block_lt_of_cell? w _ hx229_5)).trans hx229_5
                replace hx229_6 := (HB.out.cell (World.block_lt_of_cell? w _ hx229_6)).trans hx229_6
                replace hx229_7 := (HB.out.cell (World.block_lt_of_cell? w _ hx229_7)).trans hx229_7
                replace p229 := eq_true p229
                replace q229 := eq_true q229
                go_wp2_with (first | (go_at_call 54; (with_reducible refine (onairref06_Valid.calls k1 ((rd_T40 l0 x6_1).f0) ((rd_T40 l0 x6_1).f1) ((rd_T40 l0 x6_1).f2) ((rd_T40 l0 x6_1).f3) ((rd_T40 l0 x6_1).f4) ((rd_T40 l0 x6_1).f5) ((rd_T40 l0 x6_1).f6) ((rd_T40 l0 x6_1).f7) true _ A6.out).mono ?_); rintro e w13 ⟨rfl, hb⟩; have n0_ := Aside0.mk (Kd.R_below (by (with_reducible repeat (first | apply Kd.R_alloc | apply Kd.R_drewN | apply Kd.R_drew)); exact HO_5.out) hb); have n1_ := Aside0.mk (below_step (by repeat (first | (with_reducible first | exact HB.out | apply below_alloc | apply pw_below_drewN | apply below_drew1) | exact HB.out)) hb); clear HO_5; clear HB; have HO_5 := n0_; have HB := n1_; clear n0_ n1_; (try clear hb); (try clear hb2); (try clear hk); (try clear hi); have p231 : 0 ≤ (x6_1 : Int) := of_decide_eq_true (by first | (with_reducible assumption) | assumption); have q231 : x6_1 < (l0.length : Int) := of_decide_eq_true (by first | (with_reducible assumption) | assumption); obtain ⟨ad231, e231, hx231_0, hx231_1, hx231_2, hx231_3, hx231_4, hx231_5, hx231_6, hx231_7⟩ := at_T40 HR0.out x6_1 p231 q231; obtain rfl : ad228 = ad231 := (by injection e231); replace hx231_0 := (HB.out.cell (World.block_lt_of_cell? w _ hx231_0)).trans hx231_0; replace hx231_1 := (HB.out.cell (World.block_lt_of_cell? w _ hx231_1)).trans hx231_1; replace hx231_2 := (HB.out.cell (World.block_lt_of_cell? w _ hx231_2)).trans hx231_2; replace hx231_3 := (HB.out.cell (World.block_lt_of_cell? w _ hx231_3)).trans hx231_3; replace hx231_4 := (HB.out.cell (World.block_lt_of_cell? w _ hx231_4)).trans hx231_4; replace hx231_5 := (HB.out.cell (World.block_lt_of_cell? w _ hx231_5)).trans hx231_5; replace hx231_6 := (HB.out.cell (World.block_lt_of_cell? w _ hx231_6)).trans hx231_6; replace hx231_7 := (HB.out.cell (World.block_lt_of_cell? w _ hx231_7)).trans hx231_7; replace p231 := eq_true p231; replace q231 := eq_true q231))
                go_roundg k1
                case measure => have := HK1.out; omega
                case rel => exact ⟨(x5_1), (wrap64 (x6_1 + 1)), (by first | rfl | (simp; done) | (simp [*]; done)), H', ⟨by have := HK1.out; omega⟩, ⟨by (with_reducible repeat (first | apply Kd.R_alloc | apply Kd.R_drewN | apply Kd.R_drew)); exact HO_5.out⟩, ⟨by repeat (first | (with_reducible first | exact HB.out | apply below_alloc | apply pw_below_drewN | apply below_drew1) | exact HB.out)⟩⟩
            · replace c7 := Bool.eq_false_iff.mpr c7
              subst c7
              have H1 : (onairref06_Watersheds.l0 k1 l0 a1 x5_1 (wrap64 (x6_1 + 1))) = some r := by rw [if_neg (show ¬ (false = true) by decide)] at H; exact H
              clear H
              have H := H1
              clear H1
              have H' := Aside0.mk H
              clear H
              have p228 : 0 ≤ (x6_1 : Int) := of_decide_eq_true (by first | (with_reducible assumption) | assumption)
              have q228 : x6_1 < (l0.length : Int) := of_decide_eq_true (by first | (with_reducible assumption) | assumption)
              obtain ⟨ad228, e228, hx228_0, hx228_1, hx228_2, hx228_3, hx228_4, hx228_5, hx228_6, hx228_7⟩ := at_T40 HR0.out x6_1 p228 q228
              cases e228
              replace hx228_0 := (HB.out.cell (World.block_lt_of_cell? w _ hx228_0)).trans hx228_0
              replace hx228_1 := (HB.out.cell (World.block_lt_of_cell? w _ hx228_1)).trans hx228_1
              replace hx228_2 := (HB.out.cell (World.block_lt_of_cell? w _ hx228_2)).trans hx228_2
              replace hx228_3 := (HB.out.cell (World.block_lt_of_cell? w _ hx228_3)).trans hx228_3
              replace hx228_4 := (HB.out.cell (World.block_lt_of_cell? w _ hx228_4)).trans hx228_4
              replace hx228_5 := (HB.out.cell (World.block_lt_of_cell? w _ hx228_5)).trans hx228_5
              replace hx228_6 := (HB.out.cell (World.block_lt_of_cell? w _ hx228_6)).trans hx228_6
              replace hx228_7 := (HB.out.cell (World.block_lt_of_cell? w _ hx228_7)).trans hx228_7
              replace p228 := eq_true p228
              replace q228 := eq_true q228
              have p229 : 0 ≤ (x6_1 : Int) := of_decide_eq_true (by first | (with_reducible assumption) | assumption)
              have q229 : x6_1 < (l0.length : Int) := of_decide_eq_true (by first | (with_reducible assumption) | assumption)
              obtain ⟨ad229, e229, hx229_0, hx229_1, hx229_2, hx229_3, hx229_4, hx229_5, hx229_6, hx229_7⟩ := at_T40 HR0.out x6_1 p229 q229
              obtain rfl : ad228 = ad229 := (by injection e229)
              replace hx229_0 := (HB.out.cell (World.block_lt_of_cell? w _ hx229_0)).trans hx229_0
              replace hx229_1 := (HB.out.cell (World.block_lt_of_cell? w _ hx229_1)).trans hx229_1
              replace hx229_2 := (HB.out.cell (World.block_lt_of_cell? w _ hx229_2)).trans hx229_2
              replace hx229_3 := (HB.out.cell (World.block_lt_of_cell? w _ hx229_3)).trans hx229_3
              replace hx229_4 := (HB.out.cell (World.block_lt_of_cell? w _ hx229_4)).trans hx229_4
              replace hx229_5 := (HB.out.cell (World.block_lt_of_cell? w _ hx229_5)).trans hx229_5
              replace hx229_6 := (HB.out.cell (World.block_lt_of_cell? w _ hx229_6)).trans hx229_6
              replace hx229_7 := (HB.out.cell (World.block_lt_of_cell? w _ hx229_7)).trans hx229_7
              replace p229 := eq_true p229
              replace q229 := eq_true q229
              go_wp2_with (first | (go_at_call 54; (with_reducible refine (onairref06_Valid.calls k1 ((rd_T40 l0 x6_1).f0) ((rd_T40 l0 x6_1).f1) ((rd_T40 l0 x6_1).f2) ((rd_T40 l0 x6_1).f3) ((rd_T40 l0 x6_1).f4) ((rd_T40 l0 x6_1).f5) ((rd_T40 l0 x6_1).f6) ((rd_T40 l0 x6_1).f7) false _ A6.out).mono ?_); rintro e w14 ⟨rfl, hb⟩; have n0_ := Aside0.mk (Kd.R_below (by (with_reducible repeat (first | apply Kd.R_alloc | apply Kd.R_drewN | apply Kd.R_drew)); exact HO_5.out) hb); have n1_ := Aside0.mk (below_step (by repeat (first | (with_reducible first | exact HB.out | apply below_alloc | apply pw_below_drewN | apply below_drew1) | exact HB.out)) hb); clear HO_5; clear HB; have HO_5 := n0_; have HB := n1_; clear n0_ n1_; (try clear hb); (try clear hb2); (try clear hk); (try clear hi)))
              go_roundg k1
              case measure => have := HK1.out; omega
              case rel => exact ⟨(x5_1), (wrap64 (x6_1 + 1)), (by first | rfl | (simp; done) | (simp [*]; done)), H', ⟨by have := HK1.out; omega⟩, ⟨by (with_reducible repeat (first | apply Kd.R_alloc | apply Kd.R_drewN | apply Kd.R_drew)); exact HO_5.out⟩, ⟨by repeat (first | (with_reducible first | exact HB.out | apply below_alloc | apply pw_below_drewN | apply below_drew1) | exact HB.out)⟩⟩
          · rw [if_neg c5] at H
            have c5b0 : (((rd_T40 l0 x6_1).f0) == 6) = false := beq_eq_false_iff_ne.mpr c5
            have c5b1 : (((rd_T40 l0 x6_1).f0) != 6) = true := bne_iff_ne.mpr c5
            have H' := Aside0.mk H
            clear H
            have p228 : 0 ≤ (x6_1 : Int) := of_decide_eq_true (by first | (with_reducible assumption) | assumption)
            have q228 : x6_1 < (l0.length : Int) := of_decide_eq_true (by first | (with_reducible assumption) | assumption)
            obtain ⟨ad228, e228, hx228_0, hx228_1, hx228_2, hx228_3, hx228_4, hx228_5, hx228_6, hx228_7⟩ := at_T40 HR0.out x6_1 p228 q228
            cases e228
            replace hx228_0 := (HB.out.cell (World.block_lt_of_cell? w _ hx228_0)).trans hx228_0
            replace hx228_1 := (HB.out.cell (World.block_lt_of_cell? w _ hx228_1)).trans hx228_1
            replace hx228_2 := (HB.out.cell (World.block_lt_of_cell? w _ hx228_2)).trans hx228_2
            replace hx228_3 := (HB.out.cell (World.block_lt_of_cell? w _ hx228_3)).trans hx228_3
            replace hx228_4 := (HB.out.cell (World.block_lt_of_cell? w _ hx228_4)).trans hx228_4
            replace hx228_5 := (HB.out.cell (World.block_lt_of_cell? w _ hx228_5)).trans hx228_5
            replace hx228_6 := (HB.out.cell (World.block_lt_of_cell? w _ hx228_6)).trans hx228_6
            replace hx228_7 := (HB.out.cell (World.block_lt_of_cell? w _ hx228_7)).trans hx228_7
            replace p228 := eq_true p228
            replace q228 := eq_true q228
            go_wp2
            go_roundg k1
            case measure => have := HK1.out; omega
            case rel => exact ⟨(x5_1), (wrap64 (x6_1 + 1)), (by first | rfl | (simp; done) | (simp [*]; done)), H', ⟨by have := HK1.out; omega⟩, ⟨by (with_reducible repeat (first | apply Kd.R_alloc | apply Kd.R_drewN | apply Kd.R_drew)); exact HO_5.out⟩, ⟨by repeat (first | (with_reducible first | exact HB.out | apply below_alloc | apply pw_below_drewN | apply below_drew1) | exact HB.out)⟩⟩
        · rw [if_neg c4] at H
          exact absurd H (by simp)
      · rw [if_neg c3] at H
        have c3b0 : decide (x6_1 < (l0.length : Int)) = false := decide_eq_false c3
        clear c3
        obtain rfl := Option.some.inj H
        go_wp2
        go_ret
        exact ⟨_, by first | rfl | (simp [errW_none, errW_some] <;> rfl) | (simp [*, errW_none, errW_some] <;> rfl), by (with_reducible repeat (first | apply Kd.R_alloc | apply Kd.R_drewN | apply Kd.R_drew)); exact HO_5.out, by repeat (first | (with_reducible first | exact HB.out | apply below_alloc | apply pw_below_drewN | apply below_drew1) | exact HB.out)⟩

end Go.Proofs.YtpefhdjkpdjdpaaGreatDoor.R
namespace Go.Proofs.YtpefhdjkpdjdpaaGreatDoor.R
open Go.RowKit Go.Proofs.YtpefhdjkpdjdpaaGreatDoorW.PrintWords Go.Proofs.YtpefhdjkpdjdpaaGreatDoorW.PrintLast Go.Proofs.YtpefhdjkpdjdpaaGreatDoorW.PrintMore
attribute [local go_sem] max2_int min2_int max_two min_two max_three min_three max_four min_four   -- for this text's walks alone
set_option linter.unusedVariables false
set_option linter.unusedSimpArgs false
def onairlaw06_RightsLookupsMatchReference.f (k : Nat) (l0 : List (S40)) (a1 : Int) (a2 : Int) (a3 : Int) (a4 : Int) (a5 : Int) : Option (Bool) := (onairlaw06_sane.f).bind fun t237 => ((onairlaw06_cut.f l0 100).bind fun t238 => (if t237 = true then ((rights_Spans.f t238 a1 a2).bind fun t241 => ((onairref06_Spans.f k t238 a1 a2).bind fun t244 => ((onairref06_SameSpans.f k t241 t244).bind fun t247 => (if t247 = true then ((rights_Runs.f t238 a1 a2).bind fun t248 => ((onairref06_Runs.f k t238 a1 a2).bind fun t249 => (if t248 = t249 then ((rights_Gap.f k t238 a3 a4).bind fun t250 => ((onairref06_Gap.f k t238 a3 a4).bind fun t251 => (if t250 = t251 then ((rights_Catchup.f t238 a1 a2).bind fun t252 => ((onairref06_Catchup.f k t238 a1 a2).bind fun t253 => (if t252 = t253 then ((rights_Watersheds.f k t238 a5).bind fun t254 => ((onairref06_Watersheds.f k t238 a5).bind fun t257 => ((onairref06_SameSpans.f k t254 t257).bind fun t260 => (some t260)))) else (some false)))) else (some false)))) else (some false)))) else (some false))))) else (some false)))
set_option maxHeartbeats 8000000 in
set_option maxRecDepth 100000 in
theorem onairlaw06_RightsLookupsMatchReference.calls (k : Nat) (A0 : Option Addr) (c0 : Nat) (l0 : List (S40)) (a1 : Int) (a2 : Int) (a3 : Int) (a4 : Int) (a5 : Int) (r : Bool) (w : World) (hr0 : Kd.C k40 w A0 l0.length l0) (hc0 : l0.length ≤ c0) (h : onairlaw06_RightsLookupsMatchReference.f k l0 a1 a2 a3 a4 a5 = some r) (hT : TabW w) :
    Calls Tryz.prog 4 #[.slice A0 l0.length c0, .int .i64 a1, .int .i64 a2, .int .i64 a3, .int .i64 a4, .int .i64 a5] w fun e w' => e = .returned (.bool r) ∧ Below w.heap.size w w' := by
  have HT := Aside0.mk hT
  clear hT
  have HR0 := Aside0.mk hr0
  have HC0 := Aside0.mk hc0
  clear hr0 hc0
  have HB := Aside0.mk (Below.refl w.heap.size w)
  have H : ((onairlaw06_sane.f).bind fun t237 => ((onairlaw06_cut.f l0 100).bind fun t238 => (if t237 = true then ((rights_Spans.f t238 a1 a2).bind fun t241 => ((onairref06_Spans.f k t238 a1 a2).bind fun t244 => ((onairref06_SameSpans.f k t241 t244).bind fun t247 => (if t247 = true then ((rights_Runs.f t238 a1 a2).bind fun t248 => ((onairref06_Runs.f k t238 a1 a2).bind fun t249 => (if t248 = t249 then ((rights_Gap.f k t238 a3 a4).bind fun t250 => ((onairref06_Gap.f k t238 a3 a4).bind fun t251 => (if t250 = t251 then ((rights_Catchup.f t238 a1 a2).bind fun t252 => ((onairref06_Catchup.f k t238 a1 a2).bind fun t253 => (if t252 = t253 then ((rights_Watersheds.f k t238 a5).bind fun t254 => ((onairref06_Watersheds.f k t238 a5).bind fun t257 => ((onairref06_SameSpans.f k t254 t257).bind fun t260 => (some t260)))) else (some false)))) else (some false)))) else (some false)))) else (some false))))) else (some false)))) = some r := h
  clear h
  replace H := Option.bind_eq_some_iff.mp H
  obtain ⟨t237, A70, H⟩ := H
  replace H : ((onairlaw06_cut.f l0 100).bind fun t238 => (if t237 = true then ((rights_Spans.f t238 a1 a2).bind fun t241 => ((onairref06_Spans.f k t238 a1 a2).bind fun t244 => ((onairref06_SameSpans.f k t241 t244).bind fun t247 => (if t247 = true then ((rights_Runs.f t238 a1 a2).bind fun t248 => ((onairref06_Runs.f k t238 a1 a2).bind fun t249 => (if t248 = t249 then ((rights_Gap.f k t238 a3 a4).bind fun t250 => ((onairref06_Gap.f k t238 a3 a4).bind fun t251 => (if t250 = t251 then ((rights_Catchup.f t238 a1 a2).bind fun t252 => ((onairref06_Catchup.f k t238 a1 a2).bind fun t253 => (if t252 = t253 then ((rights_Watersheds.f k t238 a5).bind fun t254 => ((onairref06_Watersheds.f k t238 a5).bind fun t257 => ((onairref06_SameSpans.f k t254 t257).bind fun t260 => (some t260)))) else (some false)))) else (some false)))) else (some false)))) else (some false))))) else (some false))) = some r := H
  have A7 := Aside0.mk A70
  clear A70
  replace H := Option.bind_eq_some_iff.mp H
  obtain ⟨t238, A80, H⟩ := H
  replace H : (if t237 = true then ((rights_Spans.f t238 a1 a2).bind fun t241 => ((onairref06_Spans.f k t238 a1 a2).bind fun t244 => ((onairref06_SameSpans.f k t241 t244).bind fun t247 => (if t247 = true then ((rights_Runs.f t238 a1 a2).bind fun t248 => ((onairref06_Runs.f k t238 a1 a2).bind fun t249 => (if t248 = t249 then ((rights_Gap.f k t238 a3 a4).bind fun t250 => ((onairref06_Gap.f k t238 a3 a4).bind fun t251 => (if t250 = t251 then ((rights_Catchup.f t238 a1 a2).bind fun t252 => ((onairref06_Catchup.f k t238 a1 a2).bind fun t253 => (if t252 = t253 then ((rights_Watersheds.f k t238 a5).bind fun t254 => ((onairref06_Watersheds.f k t238 a5).bind fun t257 => ((onairref06_SameSpans.f k t254 t257).bind fun t260 => (some t260)))) else (some false)))) else (some false)))) else (some false)))) else (some false))))) else (some false)) = some r := H
  have A8 := Aside0.mk A80
  clear A80
  by_cases c9 : t237 = true
  · subst c9
    have H1 : ((rights_Spans.f t238 a1 a2).bind fun t241 => ((onairref06_Spans.f k t238 a1 a2).bind fun t244 => ((onairref06_SameSpans.f k t241 t244).bind fun t247 => (if t247 = true then ((rights_Runs.f t238 a1 a2).bind fun t248 => ((onairref06_Runs.f k t238 a1 a2).bind fun t249 => (if t248 = t249 then ((rights_Gap.f k t238 a3 a4).bind fun t250 => ((onairref06_Gap.f k t238 a3 a4).bind fun t251 => (if t250 = t251 then ((rights_Catchup.f t238 a1 a2).bind fun t252 => ((onairref06_Catchup.f k t238 a1 a2).bind fun t253 => (if t252 = t253 then ((rights_Watersheds.f k t238 a5).bind fun t254 => ((onairref06_Watersheds.f k t238 a5).bind fun t257 => ((onairref06_SameSpans.f k t254 t257).bind fun t260 => (some t260)))) else (some false)))) else (some false)))) else (some false)))) else (some false))))) = some r := by rw [if_pos rfl] at H; exact H
    clear H
    have H := H1
    clear H1
    replace H := Option.bind_eq_some_iff.mp H
    obtain ⟨t241, A100, H⟩ := H
    replace H : ((onairref06_Spans.f k t238 a1 a2).bind fun t244 => ((onairref06_SameSpans.f k t241 t244).bind fun t247 => (if t247 = true then ((rights_Runs.f t238 a1 a2).bind fun t248 => ((onairref06_Runs.f k t238 a1 a2).bind fun t249 => (if t248 = t249 then ((rights_Gap.f k t238 a3 a4).bind fun t250 => ((onairref06_Gap.f k t238 a3 a4).bind fun t251 => (if t250 = t251 then ((rights_Catchup.f t238 a1 a2).bind fun t252 => ((onairref06_Catchup.f k t238 a1 a2).bind fun t253 => (if t252 = t253 then ((rights_Watersheds.f k t238 a5).bind fun t254 => ((onairref06_Watersheds.f k t238 a5).bind fun t257 => ((onairref06_SameSpans.f k t254 t257).bind fun t260 => (some t260)))) else (some false)))) else (some false)))) else (some false)))) else (some false)))) = some r := H
    have A10 := Aside0.mk A100
    clear A100
    replace H := Option.bind_eq_some_iff.mp H
    obtain ⟨t244, A110, H⟩ := H
    replace H : ((onairref06_SameSpans.f k t241 t244).bind fun t247 => (if t247 = true then ((rights_Runs.f t238 a1 a2).bind fun t248 => ((onairref06_Runs.f k t238 a1 a2).bind fun t249 => (if t248 = t249 then ((rights_Gap.f k t238 a3 a4).bind fun t250 => ((onairref06_Gap.f k t238 a3 a4).bind fun t251 => (if t250 = t251 then ((rights_Catchup.f t238 a1 a2).bind fun t252 => ((onairref06_Catchup.f k t238 a1 a2).bind fun t253 => (if t252 = t253 then ((rights_Watersheds.f k t238 a5).bind fun t254 => ((onairref06_Watersheds.f k t238 a5).bind fun t257 => ((onairref06_SameSpans.f k t254 t257).bind fun t260 => (some t260)))) else (some false)))) else (some false)))) else (some false)))) else (some false))) = some r := H
    have A11 := Aside0.mk A110
    clear A110
    replace H := Option.bind_eq_some_iff.mp H
    obtain ⟨t247, A120, H⟩ := H
    replace H : (if t247 = true then ((rights_Runs.f t238 a1 a2).bind fun t248 => ((onairref06_Runs.f k t238 a1 a2).bind fun t249 => (if t248 = t249 then ((rights_Gap.f k t238 a3 a4).bind fun t250 => ((onairref06_Gap.f k t238 a3 a4).bind fun t251 => (if t250 = t251 then ((rights_Catchup.f t238 a1 a2).bind fun t252 => ((onairref06_Catchup.f k t238 a1 a2).bind fun t253 => (if t252 = t253 then ((rights_Watersheds.f k t238 a5).bind fun t254 => ((onairref06_Watersheds.f k t238 a5).bind fun t257 => ((onairref06_SameSpans.f k t254 t257).bind fun t260 => (some t260)))) else (some false)))) else (some false)))) else (some false)))) else (some false)) = some r := H
    have A12 := Aside0.mk A120
    clear A120
    by_cases c13 : t247 = true
    · subst c13
      have H1 : ((rights_Runs.f t238 a1 a2).bind fun t248 => ((onairref06_Runs.f k t238 a1 a2).bind fun t249 => (if t248 = t249 then ((rights_Gap.f k t238 a3 a4).bind fun t250 => ((onairref06_Gap.f k t238 a3 a4).bind fun t251 => (if t250 = t251 then ((rights_Catchup.f t238 a1 a2).bind fun t252 => ((onairref06_Catchup.f k t238 a1 a2).bind fun t253 => (if t252 = t253 then ((rights_Watersheds.f k t238 a5).bind fun t254 => ((onairref06_Watersheds.f k t238 a5).bind fun t257 => ((onairref06_SameSpans.f k t254 t257).bind fun t260 => (some t260)))) else (some false)))) else (some false)))) else (some false)))) = some r := by rw [if_pos rfl] at H; exact H
      clear H
      have H := H1
      clear H1
      replace H := Option.bind_eq_some_iff.mp H
      obtain ⟨t248, A140, H⟩ := H
      replace H : ((onairref06_Runs.f k t238 a1 a2).bind fun t249 => (if t248 = t249 then ((rights_Gap.f k t238 a3 a4).bind fun t250 => ((onairref06_Gap.f k t238 a3 a4).bind fun t251 => (if t250 = t251 then ((rights_Catchup.f t238 a1 a2).bind fun t252 => ((onairref06_Catchup.f k t238 a1 a2).bind fun t253 => (if t252 = t253 then ((rights_Watersheds.f k t238 a5).bind fun t254 => ((onairref06_Watersheds.f k t238 a5).bind fun t257 => ((onairref06_SameSpans.f k t254 t257).bind fun t260 => (some t260)))) else (some false)))) else (some false)))) else (some false))) = some r := H
      have A14 := Aside0.mk A140
      clear A140
      replace H := Option.bind_eq_some_iff.mp H
      obtain ⟨t249, A150, H⟩ := H
      replace H : (if t248 = t249 then ((rights_Gap.f k t238 a3 a4).bind fun t250 => ((onairref06_Gap.f k t238 a3 a4).bind fun t251 => (if t250 = t251 then ((rights_Catchup.f t238 a1 a2).bind fun t252 => ((onairref06_Catchup.f k t238 a1 a2).bind fun t253 => (if t252 = t253 then ((rights_Watersheds.f k t238 a5).bind fun t254 => ((onairref06_Watersheds.f k t238 a5).bind fun t257 => ((onairref06_SameSpans.f k t254 t257).bind fun t260 => (some t260)))) else (some false)))) else (some false)))) else (some false)) = some r := H
      have A15 := Aside0.mk A150
      clear A150
      by_cases c16 : t248 = t249
      · rw [if_pos c16] at H
        have c16b0 : (t248 == t249) = true := beq_iff_eq.mpr c16
        have c16b1 : (t248 != t249) = false := bne_eq_false_iff_eq.mpr c16
        clear c16
        replace H := Option.bind_eq_some_iff.mp H
        obtain ⟨t250, A170, H⟩ := H
        replace H : ((onairref06_Gap.f k t238 a3 a4).bind fun t251 => (if t250 = t251 then ((rights_Catchup.f t238 a1 a2).bind fun t252 => ((onairref06_Catchup.f k t238 a1 a2).bind fun t253 => (if t252 = t253 then ((rights_Watersheds.f k t238 a5).bind fun t254 => ((onairref06_Watersheds.f k t238 a5).bind fun t257 => ((onairref06_SameSpans.f k t254 t257).bind fun t260 => (some t260)))) else (some false)))) else (some false))) = some r := H
        have A17 := Aside0.mk A170
        clear A170
        replace H := Option.bind_eq_some_iff.mp H
        obtain ⟨t251, A180, H⟩ := H
        replace H : (if t250 = t251 then ((rights_Catchup.f t238 a1 a2).bind fun t252 => ((onairref06_Catchup.f k t238 a1 a2).bind fun t253 => (if t252 = t253 then ((rights_Watersheds.f k t238 a5).bind fun t254 => ((onairref06_Watersheds.f k t238 a5).bind fun t257 => ((onairref06_SameSpans.f k t254 t257).bind fun t260 => (some t260)))) else (some false)))) else (some false)) = some r := H
        have A18 := Aside0.mk A180
        clear A180
        by_cases c19 : t250 = t251
        · rw [if_pos c19] at H
          have c19b0 : (t250 == t251) = true := beq_iff_eq.mpr c19
          have c19b1 : (t250 != t251) = false := bne_eq_false_iff_eq.mpr c19
          clear c19
          replace H := Option.bind_eq_some_iff.mp H
          obtain ⟨t252, A200, H⟩ := H
          replace H : ((onairref06_Catchup.f k t238 a1 a2).bind fun t253 => (if t252 = t253 then ((rights_Watersheds.f k t238 a5).bind fun t254 => ((onairref06_Watersheds.f k t238 a5).bind fun t257 => ((onairref06_SameSpans.f k t254 t257).bind fun t260 => (some t260)))) else (some false))) = some r := H
          have A20 := Aside0.mk A200
          clear A200
          replace H := Option.bind_eq_some_iff.mp H
          obtain ⟨t253, A210, H⟩ := H
          replace H : (if t252 = t253 then ((rights_Watersheds.f k t238 a5).bind fun t254 => ((onairref06_Watersheds.f k t238 a5).bind fun t257 => ((onairref06_SameSpans.f k t254 t257).bind fun t260 => (some t260)))) else (some false)) = some r := H
          have A21 := Aside0.mk A210
          clear A210
          by_cases c22 : t252 = t253
          · rw [if_pos c22] at H
            have c22b0 : (t252 == t253) = true := beq_iff_eq.mpr c22
            have c22b1 : (t252 != t253) = false := bne_eq_false_iff_eq.mpr c22
            clear c22
            replace H := Option.bind_eq_some_iff.mp H
            obtain ⟨t254, A230, H⟩ := H
            replace H : ((onairref06_Watersheds.f k t238 a5).bind fun t257 => ((onairref06_SameSpans.f k t254 t257).bind fun t260 => (some t260))) = some r := H
            have A23 := Aside0.mk A230
            clear A230
            replace H := Option.bind_eq_some_iff.mp H
            obtain ⟨t257, A240, H⟩ := H
            replace H : ((onairref06_SameSpans.f k t254 t257).bind fun t260 => (some t260)) = some r := H
            have A24 := Aside0.mk A240
            clear A240
            replace H := Option.bind_eq_some_iff.mp H
            obtain ⟨t260, A250, H⟩ := H
            replace H : (some t260) = some r := H
            have A25 := Aside0.mk A250
            clear A250
            obtain rfl := Option.some.inj H
            go_enter Tryz.func4, Tryz.ntmps4
            go_wp2_with (first | ((with_reducible refine gate_callee (f := 8) rfl ?_); refine goesL_ (some 14) rfl rfl Tryz.func8 (by kernel_rfl) rfl #[] rfl (by (try simp only [List.map_toArray, List.map_cons, List.map_nil]); first | done | rfl | (simp only [List.length_drop, List.length_take]; rfl)) ?_; (with_reducible refine (onairlaw06_sane.calls  true _ A7.out (by first | exact HT.out | exact TabW.below HT.out (by repeat (first | (with_reducible first | exact HB.out | apply below_alloc | apply pw_below_drewN | apply below_drew1) | exact HB.out)))).mono ?_); rintro e w26 ⟨rfl, hb⟩; refine ⟨_, rfl, ?_⟩; have n0_ := Aside0.mk (below_step (by repeat (first | (with_reducible first | exact HB.out | apply below_alloc | apply pw_below_drewN | apply below_drew1) | exact HB.out)) hb); clear HB; have HB := n0_; clear n0_; (try clear hb); (try clear hb2); (try clear hk); (try clear hi)) | ((with_reducible refine gate_callee (f := 12) rfl ?_); refine goesL_ (some 16) rfl rfl Tryz.func12 (by kernel_rfl) rfl #[.slice A0 l0.length c0, .int .i64 100] rfl (by (try simp only [List.map_toArray, List.map_cons, List.map_nil]); first | done | rfl | (simp only [List.length_drop, List.length_take]; rfl)) ?_; (with_reducible refine (onairlaw06_cut.calls _ _ l0 100 t238 _ ?side1 ?side2 A8.out).mono ?_); (case side1 => repeat (first | exact (Kd.C_below HR0.out HB.out) | (with_reducible refine Kd.C_alloc ?_ _) | (with_reducible refine Kd.C_drewN ?_ _) | (with_reducible refine Kd.C_drew ?_))); (case side2 => exact HC0.out); rintro e w27 ⟨v239, rfl, ho0, hb⟩; refine ⟨_, rfl, ?_⟩; have n0_ := Aside0.mk (Kd.R_lower ho0 (below_size (by repeat (first | (with_reducible first | exact HB.out | apply below_alloc | apply pw_below_drewN | apply below_drew1) | exact HB.out)))); have n1_ := Aside0.mk (below_step (by repeat (first | (with_reducible first | exact HB.out | apply below_alloc | apply pw_below_drewN | apply below_drew1) | exact HB.out)) hb); clear HB; have HO240 := n0_; have HB := n1_; clear n0_ n1_; (try clear hb); (try clear hb2); (try clear hk); (try clear hi); (try clear ho0); obtain ⟨Ao28, co28, eo28⟩ := Kd.R_slice HO240.out; subst eo28) | (go_at_call 14; (with_reducible refine (rights_Spans.calls _ _ t238 a1 a2 t241 _ ?side1 ?side2 A10.out).mono ?_); (case side1 => repeat (first | exact (Kd.R_reads' HO240.out).2.2 | (with_reducible refine Kd.C_alloc ?_ _) | (with_reducible refine Kd.C_drewN ?_ _) | (with_reducible refine Kd.C_drew ?_))); (case side2 => exact (Kd.R_reads' HO240.out).2.1); rintro e w29 ⟨v242, rfl, ho0, hb⟩; have n0_ := Aside0.mk (Kd.R_below (by (with_reducible repeat (first | apply Kd.R_alloc | apply Kd.R_drewN | apply Kd.R_drew)); exact HO240.out) hb); have n1_ := Aside0.mk (Kd.R_lower ho0 (below_size (by repeat (first | (with_reducible first | exact HB.out | apply below_alloc | apply pw_below_drewN | apply below_drew1) | exact HB.out)))); have n2_ := Aside0.mk (below_step (by repeat (first | (with_reducible first | exact HB.out | apply below_alloc | apply pw_below_drewN | apply below_drew1) | exact HB.out)) hb); clear HO240; clear HB; have HO240 := n0_; have HO243 := n1_; have HB := n2_; clear n0_ n1_ n2_; (try clear hb); (try clear hb2); (try clear hk); (try clear hi); (try clear ho0)) | (go_at_call 15; (with_reducible refine (onairref06_Spans.calls k _ _ t238 a1 a2 t244 _ ?side1 ?side2 A11.out).mono ?_); (case side1 => repeat (first | exact (Kd.R_reads' HO240.out).2.2 | (with_reducible refine Kd.C_alloc ?_ _) | (with_reducible refine Kd.C_drewN ?_ _) | (with_reducible refine Kd.C_drew ?_))); (case side2 => exact (Kd.R_reads' HO240.out).2.1); rintro e w30 ⟨v245, rfl, ho0, hb⟩; have n0_ := Aside0.mk (Kd.R_below (by (with_reducible repeat (first | apply Kd.R_alloc | apply Kd.R_drewN | apply Kd.R_drew)); exact HO240.out) hb); have n1_ := Aside0.mk (Kd.R_elder' (by (with_reducible repeat (first | apply Kd.R_alloc | apply Kd.R_drewN | apply Kd.R_drew)); exact HO243.out) (Kd.R_base ho0) hb); have n2_ := Aside0.mk (Kd.R_lower (Kd.R_new' ho0 (Kd.R_lt (by (with_reducible repeat (first | apply Kd.R_alloc | apply Kd.R_drewN | apply Kd.R_drew)); exact HO243.out))) (below_size (by repeat (first | (with_reducible first | exact HB.out | apply below_alloc | apply pw_below_drewN | apply below_drew1) | exact HB.out)))); have n3_ := Aside0.mk (below_step (by repeat (first | (with_reducible first | exact HB.out | apply below_alloc | apply pw_below_drewN | apply below_drew1) | exact HB.out)) hb); clear HO240; clear HO243; clear HB; have HO240 := n0_; have HO243 := n1_; have HO246 := n2_; have HB := n3_; clear n0_ n1_ n2_ n3_; (try clear hb); (try clear hb2); (try clear hk); (try clear hi); (try clear ho0); obtain ⟨Ao31, co31, eo31⟩ := Kd.R_slice HO243.out; subst eo31; obtain ⟨Ao32, co32, eo32⟩ := Kd.R_slice HO246.out; subst eo32) | (go_at_call 13; (with_reducible refine (onairref06_SameSpans.calls k _ _ t241 _ _ t244 true _ ?side1 ?side2 ?side3 ?side4 A12.out).mono ?_); (case side1 => repeat (first | exact (Kd.R_reads' HO243.out).2.2 | (with_reducible refine Kd.C_alloc ?_ _) | (with_reducible refine Kd.C_drewN ?_ _) | (with_reducible refine Kd.C_drew ?_))); (case side2 => exact (Kd.R_reads' HO243.out).2.1); (case side3 => repeat (first | exact (Kd.R_reads' HO246.out).2.2 | (with_reducible refine Kd.C_alloc ?_ _) | (with_reducible refine Kd.C_drewN ?_ _) | (with_reducible refine Kd.C_drew ?_))); (case side4 => exact (Kd.R_reads' HO246.out).2.1); rintro e w' ⟨rfl, ⟨nd, rfl⟩⟩) | (go_at_call 16; (with_reducible refine (rights_Runs.calls _ _ t238 a1 a2 t248 _ ?side1 ?side2 A14.out).mono ?_); (case side1 => repeat (first | exact (Kd.R_reads' HO240.out).2.2 | (with_reducible refine Kd.C_alloc ?_ _) | (with_reducible refine Kd.C_drewN ?_ _) | (with_reducible refine Kd.C_drew ?_))); (case side2 => exact (Kd.R_reads' HO240.out).2.1); rintro e w33 ⟨rfl, hb⟩; have n0_ := Aside0.mk (Kd.R_below (by (with_reducible repeat (first | apply Kd.R_alloc | apply Kd.R_drewN | apply Kd.R_drew)); exact HO240.out) hb); have n1_ := Aside0.mk (Kd.R_below (by (with_reducible repeat (first | apply Kd.R_alloc | apply Kd.R_drewN | apply Kd.R_drew)); exact HO243.out) hb); have n2_ := Aside0.mk (Kd.R_below (by (with_reducible repeat (first | apply Kd.R_alloc | apply Kd.R_drewN | apply Kd.R_drew)); exact HO246.out) hb); have n3_ := Aside0.mk (below_step (by repeat (first | (with_reducible first | exact HB.out | apply below_alloc | apply pw_below_drewN | apply below_drew1) | exact HB.out)) hb); clear HO240; clear HO243; clear HO246; clear HB; have HO240 := n0_; have HO243 := n1_; have HO246 := n2_; have HB := n3_; clear n0_ n1_ n2_ n3_; (try clear hb); (try clear hb2); (try clear hk); (try clear hi)) | (go_at_call 17; (with_reducible refine (onairref06_Runs.calls k _ _ t238 a1 a2 t249 _ ?side1 ?side2 A15.out).mono ?_); (case side1 => repeat (first | exact (Kd.R_reads' HO240.out).2.2 | (with_reducible refine Kd.C_alloc ?_ _) | (with_reducible refine Kd.C_drewN ?_ _) | (with_reducible refine Kd.C_drew ?_))); (case side2 => exact (Kd.R_reads' HO240.out).2.1); rintro e w34 ⟨rfl, hb⟩; have n0_ := Aside0.mk (Kd.R_below (by (with_reducible repeat (first | apply Kd.R_alloc | apply Kd.R_drewN | apply Kd.R_drew)); exact HO240.out) hb); have n1_ := Aside0.mk (Kd.R_below (by (with_reducible repeat (first | apply Kd.R_alloc | apply Kd.R_drewN | apply Kd.R_drew)); exact HO243.out) hb); have n2_ := Aside0.mk (Kd.R_below (by (with_reducible repeat (first | apply Kd.R_alloc | apply Kd.R_drewN | apply Kd.R_drew)); exact HO246.out) hb); have n3_ := Aside0.mk (below_step (by repeat (first | (with_reducible first | exact HB.out | apply below_alloc | apply pw_below_drewN | apply below_drew1) | exact HB.out)) hb); clear HO240; clear HO243; clear HO246; clear HB; have HO240 := n0_; have HO243 := n1_; have HO246 := n2_; have HB := n3_; clear n0_ n1_ n2_ n3_; (try clear hb); (try clear hb2); (try clear hk); (try clear hi)) | (go_at_call 18; (with_reducible refine (rights_Gap.calls k _ _ t238 a3 a4 t250 _ ?side1 ?side2 A17.out).mono ?_); (case side1 => repeat (first | exact (Kd.R_reads' HO240.out).2.2 | (with_reducible refine Kd.C_alloc ?_ _) | (with_reducible refine Kd.C_drewN ?_ _) | (with_reducible refine Kd.C_drew ?_))); (case side2 => exact (Kd.R_reads' HO240.out).2.1); rintro e w35 ⟨rfl, hb⟩; have n0_ := Aside0.mk (Kd.R_below (by (with_reducible repeat (first | apply Kd.R_alloc | apply Kd.R_drewN | apply Kd.R_drew)); exact HO240.out) hb); have n1_ := Aside0.mk (Kd.R_below (by (with_reducible repeat (first | apply Kd.R_alloc | apply Kd.R_drewN | apply Kd.R_drew)); exact HO243.out) hb); have n2_ := Aside0.mk (Kd.R_below (by (with_reducible repeat (first | apply Kd.R_alloc | apply Kd.R_drewN | apply Kd.R_drew)); exact HO246.out) hb); have n3_ := Aside0.mk (below_step (by repeat (first | (with_reducible first | exact HB.out | apply below_alloc | apply pw_below_drewN | apply below_drew1) | exact HB.out)) hb); clear HO240; clear HO243; clear HO246; clear HB; have HO240 := n0_; have HO243 := n1_; have HO246 := n2_; have HB := n3_; clear n0_ n1_ n2_ n3_; (try clear hb); (try clear hb2); (try clear hk); (try clear hi)) | (go_at_call 19; (with_reducible refine (onairref06_Gap.calls k _ _ t238 a3 a4 t251 _ ?side1 ?side2 A18.out).mono ?_); (case side1 => repeat (first | exact (Kd.R_reads' HO240.out).2.2 | (with_reducible refine Kd.C_alloc ?_ _) | (with_reducible refine Kd.C_drewN ?_ _) | (with_reducible refine Kd.C_drew ?_))); (case side2 => exact (Kd.R_reads' HO240.out).2.1); rintro e w36 ⟨rfl, hb⟩; have n0_ := Aside0.mk (Kd.R_below (by (with_reducible repeat (first | apply Kd.R_alloc | apply Kd.R_drewN | apply Kd.R_drew)); exact HO240.out) hb); have n1_ := Aside0.mk (Kd.R_below (by (with_reducible repeat (first | apply Kd.R_alloc | apply Kd.R_drewN | apply Kd.R_drew)); exact HO243.out) hb); have n2_ := Aside0.mk (Kd.R_below (by (with_reducible repeat (first | apply Kd.R_alloc | apply Kd.R_drewN | apply Kd.R_drew)); exact HO246.out) hb); have n3_ := Aside0.mk (below_step (by repeat (first | (with_reducible first | exact HB.out | apply below_alloc | apply pw_below_drewN | apply below_drew1) | exact HB.out)) hb); clear HO240; clear HO243; clear HO246; clear HB; have HO240 := n0_; have HO243 := n1_; have HO246 := n2_; have HB := n3_; clear n0_ n1_ n2_ n3_; (try clear hb); (try clear hb2); (try clear hk); (try clear hi)) | (go_at_call 20; (with_reducible refine (rights_Catchup.calls _ _ t238 a1 a2 t252 _ ?side1 ?side2 A20.out).mono ?_); (case side1 => repeat (first | exact (Kd.R_reads' HO240.out).2.2 | (with_reducible refine Kd.C_alloc ?_ _) | (with_reducible refine Kd.C_drewN ?_ _) | (with_reducible refine Kd.C_drew ?_))); (case side2 => exact (Kd.R_reads' HO240.out).2.1); rintro e w37 ⟨rfl, hb⟩; have n0_ := Aside0.mk (Kd.R_below (by (with_reducible repeat (first | apply Kd.R_alloc | apply Kd.R_drewN | apply Kd.R_drew)); exact HO240.out) hb); have n1_ := Aside0.mk (Kd.R_below (by (with_reducible repeat (first | apply Kd.R_alloc | apply Kd.R_drewN | apply Kd.R_drew)); exact HO243.out) hb); have n2_ := Aside0.mk (Kd.R_below (by (with_reducible repeat (first | apply Kd.R_alloc | apply Kd.R_drewN | apply Kd.R_drew)); exact HO246.out) hb); have n3_ := Aside0.mk (below_step (by repeat (first | (with_reducible first | exact HB.out | apply below_alloc | apply pw_below_drewN | apply below_drew1) | exact HB.out)) hb); clear HO240; clear HO243; clear HO246; clear HB; have HO240 := n0_; have HO243 := n1_; have HO246 := n2_; have HB := n3_; clear n0_ n1_ n2_ n3_; (try clear hb); (try clear hb2); (try clear hk); (try clear hi)) | (go_at_call 21; (with_reducible refine (onairref06_Catchup.calls k _ _ t238 a1 a2 t253 _ ?side1 ?side2 A21.out).mono ?_); (case side1 => repeat (first | exact (Kd.R_reads' HO240.out).2.2 | (with_reducible refine Kd.C_alloc ?_ _) | (with_reducible refine Kd.C_drewN ?_ _) | (with_reducible refine Kd.C_drew ?_))); (case side2 => exact (Kd.R_reads' HO240.out).2.1); rintro e w38 ⟨rfl, hb⟩; have n0_ := Aside0.mk (Kd.R_below (by (with_reducible repeat (first | apply Kd.R_alloc | apply Kd.R_drewN | apply Kd.R_drew)); exact HO240.out) hb); have n1_ := Aside0.mk (Kd.R_below (by (with_reducible repeat (first | apply Kd.R_alloc | apply Kd.R_drewN | apply Kd.R_drew)); exact HO243.out) hb); have n2_ := Aside0.mk (Kd.R_below (by (with_reducible repeat (first | apply Kd.R_alloc | apply Kd.R_drewN | apply Kd.R_drew)); exact HO246.out) hb); have n3_ := Aside0.mk (below_step (by repeat (first | (with_reducible first | exact HB.out | apply below_alloc | apply pw_below_drewN | apply below_drew1) | exact HB.out)) hb); clear HO240; clear HO243; clear HO246; clear HB; have HO240 := n0_; have HO243 := n1_; have HO246 := n2_; have HB := n3_; clear n0_ n1_ n2_ n3_; (try clear hb); (try clear hb2); (try clear hk); (try clear hi)) | (go_at_call 22; (with_reducible refine (rights_Watersheds.calls k _ _ t238 a5 t254 _ ?side1 ?side2 A23.out).mono ?_); (case side1 => repeat (first | exact (Kd.R_reads' HO240.out).2.2 | (with_reducible refine Kd.C_alloc ?_ _) | (with_reducible refine Kd.C_drewN ?_ _) | (with_reducible refine Kd.C_drew ?_))); (case side2 => exact (Kd.R_reads' HO240.out).2.1); rintro e w39 ⟨v255, rfl, ho0, hb⟩; have n0_ := Aside0.mk (Kd.R_below (by (with_reducible repeat (first | apply Kd.R_alloc | apply Kd.R_drewN | apply Kd.R_drew)); exact HO240.out) hb); have n1_ := Aside0.mk (Kd.R_elder' (by (with_reducible repeat (first | apply Kd.R_alloc | apply Kd.R_drewN | apply Kd.R_drew)); exact HO243.out) (Kd.R_base ho0) hb); have n2_ := Aside0.mk (Kd.R_elder' (by (with_reducible repeat (first | apply Kd.R_alloc | apply Kd.R_drewN | apply Kd.R_drew)); exact HO246.out) (Kd.R_base ho0) hb); have n3_ := Aside0.mk (Kd.R_lower (Kd.R_new' (Kd.R_new' ho0 (Kd.R_lt (by (with_reducible repeat (first | apply Kd.R_alloc | apply Kd.R_drewN | apply Kd.R_drew)); exact HO243.out))) (Kd.R_lt (by (with_reducible repeat (first | apply Kd.R_alloc | apply Kd.R_drewN | apply Kd.R_drew)); exact HO246.out))) (below_size (by repeat (first | (with_reducible first | exact HB.out | apply below_alloc | apply pw_below_drewN | apply below_drew1) | exact HB.out)))); have n4_ := Aside0.mk (below_step (by repeat (first | (with_reducible first | exact HB.out | apply below_alloc | apply pw_below_drewN | apply below_drew1) | exact HB.out)) hb); clear HO240; clear HO243; clear HO246; clear HB; have HO240 := n0_; have HO243 := n1_; have HO246 := n2_; have HO256 := n3_; have HB := n4_; clear n0_ n1_ n2_ n3_ n4_; (try clear hb); (try clear hb2); (try clear hk); (try clear hi); (try clear ho0)) | (go_at_call 23; (with_reducible refine (onairref06_Watersheds.calls k _ _ t238 a5 t257 _ ?side1 ?side2 A24.out).mono ?_); (case side1 => repeat (first | exact (Kd.R_reads' HO240.out).2.2 | (with_reducible refine Kd.C_alloc ?_ _) | (with_reducible refine Kd.C_drewN ?_ _) | (with_reducible refine Kd.C_drew ?_))); (case side2 => exact (Kd.R_reads' HO240.out).2.1); rintro e w40 ⟨v258, rfl, ho0, hb⟩; have n0_ := Aside0.mk (Kd.R_below (by (with_reducible repeat (first | apply Kd.R_alloc | apply Kd.R_drewN | apply Kd.R_drew)); exact HO240.out) hb); have n1_ := Aside0.mk (Kd.R_elder' (by (with_reducible repeat (first | apply Kd.R_alloc | apply Kd.R_drewN | apply Kd.R_drew)); exact HO243.out) (Kd.R_base ho0) hb); have n2_ := Aside0.mk (Kd.R_elder' (by (with_reducible repeat (first | apply Kd.R_alloc | apply Kd.R_drewN | apply Kd.R_drew)); exact HO246.out) (Kd.R_base ho0) hb); have n3_ := Aside0.mk (Kd.R_elder' (by (with_reducible repeat (first | apply Kd.R_alloc | apply Kd.R_drewN | apply Kd.R_drew)); exact HO256.out) (Kd.R_base ho0) hb); have n4_ := Aside0.mk (Kd.R_lower (Kd.R_new' (Kd.R_new' (Kd.R_new' ho0 (Kd.R_lt (by (with_reducible repeat (first | apply Kd.R_alloc | apply Kd.R_drewN | apply Kd.R_drew)); exact HO243.out))) (Kd.R_lt (by (with_reducible repeat (first | apply Kd.R_alloc | apply Kd.R_drewN | apply Kd.R_drew)); exact HO246.out))) (Kd.R_lt (by (with_reducible repeat (first | apply Kd.R_alloc | apply Kd.R_drewN | apply Kd.R_drew)); exact HO256.out))) (below_size (by repeat (first | (with_reducible first | exact HB.out | apply below_alloc | apply pw_below_drewN | apply below_drew1) | exact HB.out)))); have n5_ := Aside0.mk (below_step (by repeat (first | (with_reducible first | exact HB.out | apply below_alloc | apply pw_below_drewN | apply below_drew1) | exact HB.out)) hb); clear HO240; clear HO243; clear HO246; clear HO256; clear HB; have HO240 := n0_; have HO243 := n1_; have HO246 := n2_; have HO256 := n3_; have HO259 := n4_; have HB := n5_; clear n0_ n1_ n2_ n3_ n4_ n5_; (try clear hb); (try clear hb2); (try clear hk); (try clear hi); (try clear ho0); obtain ⟨Ao41, co41, eo41⟩ := Kd.R_slice HO256.out; subst eo41; obtain ⟨Ao42, co42, eo42⟩ := Kd.R_slice HO259.out; subst eo42) | (go_at_call 13; (with_reducible refine (onairref06_SameSpans.calls k _ _ t254 _ _ t257 t260 _ ?side1 ?side2 ?side3 ?side4 A25.out).mono ?_); (case side1 => repeat (first | exact (Kd.R_reads' HO256.out).2.2 | (with_reducible refine Kd.C_alloc ?_ _) | (with_reducible refine Kd.C_drewN ?_ _) | (with_reducible refine Kd.C_drew ?_))); (case side2 => exact (Kd.R_reads' HO256.out).2.1); (case side3 => repeat (first | exact (Kd.R_reads' HO259.out).2.2 | (with_reducible refine Kd.C_alloc ?_ _) | (with_reducible refine Kd.C_drewN ?_ _) | (with_reducible refine Kd.C_drew ?_))); (case side4 => exact (Kd.R_reads' HO259.out).2.1); rintro e w' ⟨rfl, ⟨nd, rfl⟩⟩))
            go_ret
            exact ⟨by first | rfl | (simp [errW_none, errW_some] <;> rfl) | (simp [*, errW_none, errW_some] <;> rfl), by repeat (first | (with_reducible first | exact HB.out | apply below_alloc | apply pw_below_drewN | apply below_drew1) | exact HB.out)⟩
          · rw [if_neg c22] at H
            have c22b0 : (t252 == t253) = false := beq_eq_false_iff_ne.mpr c22
            have c22b1 : (t252 != t253) = true := bne_iff_ne.mpr c22
            obtain rfl := Option.some.inj H
            go_enter Tryz.func4, Tryz.ntmps4
            go_wp2_with (first | ((with_reducible refine gate_callee (f := 8) rfl ?_); refine goesL_ (some 14) rfl rfl Tryz.func8 (by kernel_rfl) rfl #[] rfl (by (try simp only [List.map_toArray, List.map_cons, List.map_nil]); first | done | rfl | (simp only [List.length_drop, List.length_take]; rfl)) ?_; (with_reducible refine (onairlaw06_sane.calls  true _ A7.out (by first | exact HT.out | exact TabW.below HT.out (by repeat (first | (with_reducible first | exact HB.out | apply below_alloc | apply pw_below_drewN | apply below_drew1) | exact HB.out)))).mono ?_); rintro e w43 ⟨rfl, hb⟩; refine ⟨_, rfl, ?_⟩; have n0_ := Aside0.mk (below_step (by repeat (first | (with_reducible first | exact HB.out | apply below_alloc | apply pw_below_drewN | apply below_drew1) | exact HB.out)) hb); clear HB; have HB := n0_; clear n0_; (try clear hb); (try clear hb2); (try clear hk); (try clear hi)) | ((with_reducible refine gate_callee (f := 12) rfl ?_); refine goesL_ (some 16) rfl rfl Tryz.func12 (by kernel_rfl) rfl #[.slice A0 l0.length c0, .int .i64 100] rfl (by (try simp only [List.map_toArray, List.map_cons, List.map_nil]); first | done | rfl | (simp only [List.length_drop, List.length_take]; rfl)) ?_; (with_reducible refine (onairlaw06_cut.calls _ _ l0 100 t238 _ ?side1 ?side2 A8.out).mono ?_); (case side1 => repeat (first | exact (Kd.C_below HR0.out HB.out) | (with_reducible refine Kd.C_alloc ?_ _) | (with_reducible refine Kd.C_drewN ?_ _) | (with_reducible refine Kd.C_drew ?_))); (case side2 => exact HC0.out); rintro e w44 ⟨v239, rfl, ho0, hb⟩; refine ⟨_, rfl, ?_⟩; have n0_ := Aside0.mk (Kd.R_lower ho0 (below_size (by repeat (first | (with_reducible first | exact HB.out | apply below_alloc | apply pw_below_drewN | apply below_drew1) | exact HB.out)))); have n1_ := Aside0.mk (below_step (by repeat (first | (with_reducible first | exact HB.out | apply below_alloc | apply pw_below_drewN | apply below_drew1) | exact HB.out)) hb); clear HB; have HO240 := n0_; have HB := n1_; clear n0_ n1_; (try clear hb); (try clear hb2); (try clear hk); (try clear hi); (try clear ho0); obtain ⟨Ao45, co45, eo45⟩ := Kd.R_slice HO240.out; subst eo45) | (go_at_call 14; (with_reducible refine (rights_Spans.calls _ _ t238 a1 a2 t241 _ ?side1 ?side2 A10.out).mono ?_); (case side1 => repeat (first | exact (Kd.R_reads' HO240.out).2.2 | (with_reducible refine Kd.C_alloc ?_ _) | (with_reducible refine Kd.C_drewN ?_ _) | (with_reducible refine Kd.C_drew ?_))); (case side2 => exact (Kd.R_reads' HO240.out).2.1); rintro e w46 ⟨v242, rfl, ho0, hb⟩; have n0_ := Aside0.mk (Kd.R_below (by (with_reducible repeat (first | apply Kd.R_alloc | apply Kd.R_drewN | apply Kd.R_drew)); exact HO240.out) hb); have n1_ := Aside0.mk (Kd.R_lower ho0 (below_size (by repeat (first | (with_reducible first | exact HB.out | apply below_alloc | apply pw_below_drewN | apply below_drew1) | exact HB.out)))); have n2_ := Aside0.mk (below_step (by repeat (first | (with_reducible first | exact HB.out | apply below_alloc | apply pw_below_drewN | apply below_drew1) | exact HB.out)) hb); clear HO240; clear HB; have HO240 := n0_; have HO243 := n1_; have HB := n2_; clear n0_ n1_ n2_; (try clear hb); (try clear hb2); (try clear hk); (try clear hi); (try clear ho0)) | (go_at_call 15; (with_reducible refine (onairref06_Spans.calls k _ _ t238 a1 a2 t244 _ ?side1 ?side2 A11.out).mono ?_); (case side1 => repeat (first | exact (Kd.R_reads' HO240.out).2.2 | (with_reducible refine Kd.C_alloc ?_ _) | (with_reducible refine Kd.C_drewN ?_ _) | (with_reducible refine Kd.C_drew ?_))); (case side2 => exact (Kd.R_reads' HO240.out).2.1); rintro e w47 ⟨v245, rfl, ho0, hb⟩; have n0_ := Aside0.mk (Kd.R_below (by (with_reducible repeat (first | apply Kd.R_alloc | apply Kd.R_drewN | apply Kd.R_drew)); exact HO240.out) hb); have n1_ := Aside0.mk (Kd.R_elder' (by (with_reducible repeat (first | apply Kd.R_alloc | apply Kd.R_drewN | apply Kd.R_drew)); exact HO243.out) (Kd.R_base ho0) hb); have n2_ := Aside0.mk (Kd.R_lower (Kd.R_new' ho0 (Kd.R_lt (by (with_reducible repeat (first | apply Kd.R_alloc | apply Kd.R_drewN | apply Kd.R_drew)); exact HO243.out))) (below_size (by repeat (first | (with_reducible first | exact HB.out | apply below_alloc | apply pw_below_drewN | apply below_drew1) | exact HB.out)))); have n3_ := Aside0.mk (below_step (by repeat (first | (with_reducible first | exact HB.out | apply below_alloc | apply pw_below_drewN | apply below_drew1) | exact HB.out)) hb); clear HO240; clear HO243; clear HB; have HO240 := n0_; have HO243 := n1_; have HO246 := n2_; have HB := n3_; clear n0_ n1_ n2_ n3_; (try clear hb); (try clear hb2); (try clear hk); (try clear hi); (try clear ho0); obtain ⟨Ao48, co48, eo48⟩ := Kd.R_slice HO243.out; subst eo48; obtain ⟨Ao49, co49, eo49⟩ := Kd.R_slice HO246.out; subst eo49) | (go_at_call 13; (with_reducible refine (onairref06_SameSpans.calls k _ _ t241 _ _ t244 true _ ?side1 ?side2 ?side3 ?side4 A12.out).mono ?_); (case side1 => repeat (first | exact (Kd.R_reads' HO243.out).2.2 | (with_reducible refine Kd.C_alloc ?_ _) | (with_reducible refine Kd.C_drewN ?_ _) | (with_reducible refine Kd.C_drew ?_))); (case side2 => exact (Kd.R_reads' HO243.out).2.1); (case side3 => repeat (first | exact (Kd.R_reads' HO246.out).2.2 | (with_reducible refine Kd.C_alloc ?_ _) | (with_reducible refine Kd.C_drewN ?_ _) | (with_reducible refine Kd.C_drew ?_))); (case side4 => exact (Kd.R_reads' HO246.out).2.1); rintro e w' ⟨rfl, ⟨nd, rfl⟩⟩) | (go_at_call 16; (with_reducible refine (rights_Runs.calls _ _ t238 a1 a2 t248 _ ?side1 ?side2 A14.out).mono ?_); (case side1 => repeat (first | exact (Kd.R_reads' HO240.out).2.2 | (with_reducible refine Kd.C_alloc ?_ _) | (with_reducible refine Kd.C_drewN ?_ _) | (with_reducible refine Kd.C_drew ?_))); (case side2 => exact (Kd.R_reads' HO240.out).2.1); rintro e w50 ⟨rfl, hb⟩; have n0_ := Aside0.mk (Kd.R_below (by (with_reducible repeat (first | apply Kd.R_alloc | apply Kd.R_drewN | apply Kd.R_drew)); exact HO240.out) hb); have n1_ := Aside0.mk (Kd.R_below (by (with_reducible repeat (first | apply Kd.R_alloc | apply Kd.R_drewN | apply Kd.R_drew)); exact HO243.out) hb); have n2_ := Aside0.mk (Kd.R_below (by (with_reducible repeat (first | apply Kd.R_alloc | apply Kd.R_drewN | apply Kd.R_drew)); exact HO246.out) hb); have n3_ := Aside0.mk (below_step (by repeat (first | (with_reducible first | exact HB.out | apply below_alloc | apply pw_below_drewN | apply below_drew1) | exact HB.out)) hb); clear HO240; clear HO243; clear HO246; clear HB; have HO240 := n0_; have HO243 := n1_; have HO246 := n2_; have HB := n3_; clear n0_ n1_ n2_ n3_; (try clear hb); (try clear hb2); (try clear hk); (try clear hi)) | (go_at_call 17; (with_reducible refine (onairref06_Runs.calls k _ _ t238 a1 a2 t249 _ ?side1 ?side2 A15.out).mono ?_); (case side1 => repeat (first | exact (Kd.R_reads' HO240.out).2.2 | (with_reducible refine Kd.C_alloc ?_ _) | (with_reducible refine Kd.C_drewN ?_ _) | (with_reducible refine Kd.C_drew ?_))); (case side2 => exact (Kd.R_reads' HO240.out).2.1); rintro e w51 ⟨rfl, hb⟩; have n0_ := Aside0.mk (Kd.R_below (by (with_reducible repeat (first | apply Kd.R_alloc | apply Kd.R_drewN | apply Kd.R_drew)); exact HO240.out) hb); have n1_ := Aside0.mk (Kd.R_below (by (with_reducible repeat (first | apply Kd.R_alloc | apply Kd.R_drewN | apply Kd.R_drew)); exact HO243.out) hb); have n2_ := Aside0.mk (Kd.R_below (by (with_reducible repeat (first | apply Kd.R_alloc | apply Kd.R_drewN | apply Kd.R_drew)); exact HO246.out) hb); have n3_ := Aside0.mk (below_step (by repeat (first | (with_reducible first | exact HB.out | apply below_alloc | apply pw_below_drewN | apply below_drew1) | exact HB.out)) hb); clear HO240; clear HO243; clear HO246; clear HB; have HO240 := n0_; have HO243 := n1_; have HO246 := n2_; have HB := n3_; clear n0_ n1_ n2_ n3_; (try clear hb); (try clear hb2); (try clear hk); (try clear hi)) | (go_at_call 18; (with_reducible refine (rights_Gap.calls k _ _ t238 a3 a4 t250 _ ?side1 ?side2 A17.out).mono ?_); (case side1 => repeat (first | exact (Kd.R_reads' HO240.out).2.2 | (with_reducible refine Kd.C_alloc ?_ _) | (with_reducible refine Kd.C_drewN ?_ _) | (with_reducible refine Kd.C_drew ?_))); (case side2 => exact (Kd.R_reads' HO240.out).2.1); rintro e w52 ⟨rfl, hb⟩; have n0_ := Aside0.mk (Kd.R_below (by (with_reducible repeat (first | apply Kd.R_alloc | apply Kd.R_drewN | apply Kd.R_drew)); exact HO240.out) hb); have n1_ := Aside0.mk (Kd.R_below (by (with_reducible repeat (first | apply Kd.R_alloc | apply Kd.R_drewN | apply Kd.R_drew)); exact HO243.out) hb); have n2_ := Aside0.mk (Kd.R_below (by (with_reducible repeat (first | apply Kd.R_alloc | apply Kd.R_drewN | apply Kd.R_drew)); exact HO246.out) hb); have n3_ := Aside0.mk (below_step (by repeat (first | (with_reducible first | exact HB.out | apply below_alloc | apply pw_below_drewN | apply below_drew1) | exact HB.out)) hb); clear HO240; clear HO243; clear HO246; clear HB; have HO240 := n0_; have HO243 := n1_; have HO246 := n2_; have HB := n3_; clear n0_ n1_ n2_ n3_; (try clear hb); (try clear hb2); (try clear hk); (try clear hi)) | (go_at_call 19; (with_reducible refine (onairref06_Gap.calls k _ _ t238 a3 a4 t251 _ ?side1 ?side2 A18.out).mono ?_); (case side1 => repeat (first | exact (Kd.R_reads' HO240.out).2.2 | (with_reducible refine Kd.C_alloc ?_ _) | (with_reducible refine Kd.C_drewN ?_ _) | (with_reducible refine Kd.C_drew ?_))); (case side2 => exact (Kd.R_reads' HO240.out).2.1); rintro e w53 ⟨rfl, hb⟩; have n0_ := Aside0.mk (Kd.R_below (by (with_reducible repeat (first | apply Kd.R_alloc | apply Kd.R_drewN | apply Kd.R_drew)); exact HO240.out) hb); have n1_ := Aside0.mk (Kd.R_below (by (with_reducible repeat (first | apply Kd.R_alloc | apply Kd.R_drewN | apply Kd.R_drew)); exact HO243.out) hb); have n2_ := Aside0.mk (Kd.R_below (by (with_reducible repeat (first | apply Kd.R_alloc | apply Kd.R_drewN | apply Kd.R_drew)); exact HO246.out) hb); have n3_ := Aside0.mk (below_step (by repeat (first | (with_reducible first | exact HB.out | apply below_alloc | apply pw_below_drewN | apply below_drew1) | exact HB.out)) hb); clear HO240; clear HO243; clear HO246; clear HB; have HO240 := n0_; have HO243 := n1_; have HO246 := n2_; have HB := n3_; clear n0_ n1_ n2_ n3_; (try clear hb); (try clear hb2); (try clear hk); (try clear hi)) | (go_at_call 20; (with_reducible refine (rights_Catchup.calls _ _ t238 a1 a2 t252 _ ?side1 ?side2 A20.out).mono ?_); (case side1 => repeat (first | exact (Kd.R_reads' HO240.out).2.2 | (with_reducible refine Kd.C_alloc ?_ _) | (with_reducible refine Kd.C_drewN ?_ _) | (with_reducible refine Kd.C_drew ?_))); (case side2 => exact (Kd.R_reads' HO240.out).2.1); rintro e w54 ⟨rfl, hb⟩; have n0_ := Aside0.mk (Kd.R_below (by (with_reducible repeat (first | apply Kd.R_alloc | apply Kd.R_drewN | apply Kd.R_drew)); exact HO240.out) hb); have n1_ := Aside0.mk (Kd.R_below (by (with_reducible repeat (first | apply Kd.R_alloc | apply Kd.R_drewN | apply Kd.R_drew)); exact HO243.out) hb); have n2_ := Aside0.mk (Kd.R_below (by (with_reducible repeat (first | apply Kd.R_alloc | apply Kd.R_drewN | apply Kd.R_drew)); exact HO246.out) hb); have n3_ := Aside0.mk (below_step (by repeat (first | (with_reducible first | exact HB.out | apply below_alloc | apply pw_below_drewN | apply below_drew1) | exact HB.out)) hb); clear HO240; clear HO243; clear HO246; clear HB; have HO240 := n0_; have HO243 := n1_; have HO246 := n2_; have HB := n3_; clear n0_ n1_ n2_ n3_; (try clear hb); (try clear hb2); (try clear hk); (try clear hi)) | (go_at_call 21; (with_reducible refine (onairref06_Catchup.calls k _ _ t238 a1 a2 t253 _ ?side1 ?side2 A21.out).mono ?_); (case side1 => repeat (first | exact (Kd.R_reads' HO240.out).2.2 | (with_reducible refine Kd.C_alloc ?_ _) | (with_reducible refine Kd.C_drewN ?_ _) | (with_reducible refine Kd.C_drew ?_))); (case side2 => exact (Kd.R_reads' HO240.out).2.1); rintro e w55 ⟨rfl, hb⟩; have n0_ := Aside0.mk (Kd.R_below (by (with_reducible repeat (first | apply Kd.R_alloc | apply Kd.R_drewN | apply Kd.R_drew)); exact HO240.out) hb); have n1_ := Aside0.mk (Kd.R_below (by (with_reducible repeat (first | apply Kd.R_alloc | apply Kd.R_drewN | apply Kd.R_drew)); exact HO243.out) hb); have n2_ := Aside0.mk (Kd.R_below (by (with_reducible repeat (first | apply Kd.R_alloc | apply Kd.R_drewN | apply Kd.R_drew)); exact HO246.out) hb); have n3_ := Aside0.mk (below_step (by repeat (first | (with_reducible first | exact HB.out | apply below_alloc | apply pw_below_drewN | apply below_drew1) | exact HB.out)) hb); clear HO240; clear HO243; clear HO246; clear HB; have HO240 := n0_; have HO243 := n1_; have HO246 := n2_; have HB := n3_; clear n0_ n1_ n2_ n3_; (try clear hb); (try clear hb2); (try clear hk); (try clear hi)))
            go_ret
            exact ⟨by first | rfl | (simp [errW_none, errW_some] <;> rfl) | (simp [*, errW_none, errW_some] <;> rfl), by repeat (first | (with_reducible first | exact HB.out | apply below_alloc | apply pw_below_drewN | apply below_drew1) | exact HB.out)⟩
        · rw [if_neg c19] at H
          have c19b0 : (t250 == t251) = false := beq_eq_false_iff_ne.mpr c19
          have c19b1 : (t250 != t251) = true := bne_iff_ne.mpr c19
          obtain rfl := Option.some.inj H
          go_enter Tryz.func4, Tryz.ntmps4
          go_wp2_with (first | ((with_reducible refine gate_callee (f := 8) rfl ?_); refine goesL_ (some 14) rfl rfl Tryz.func8 (by kernel_rfl) rfl #[] rfl (by (try simp only [List.map_toArray, List.map_cons, List.map_nil]); first | done | rfl | (simp only [List.length_drop, List.length_take]; rfl)) ?_; (with_reducible refine (onairlaw06_sane.calls  true _ A7.out (by first | exact HT.out | exact TabW.below HT.out (by repeat (first | (with_reducible first | exact HB.out | apply below_alloc | apply pw_below_drewN | apply below_drew1) | exact HB.out)))).mono ?_); rintro e w56 ⟨rfl, hb⟩; refine ⟨_, rfl, ?_⟩; have n0_ := Aside0.mk (below_step (by repeat (first | (with_reducible first | exact HB.out | apply below_alloc | apply pw_below_drewN | apply below_drew1) | exact HB.out)) hb); clear HB; have HB := n0_; clear n0_; (try clear hb); (try clear hb2); (try clear hk); (try clear hi)) | ((with_reducible refine gate_callee (f := 12) rfl ?_); refine goesL_ (some 16) rfl rfl Tryz.func12 (by kernel_rfl) rfl #[.slice A0 l0.length c0, .int .i64 100] rfl (by (try simp only [List.map_toArray, List.map_cons, List.map_nil]); first | done | rfl | (simp only [List.length_drop, List.length_take]; rfl)) ?_; (with_reducible refine (onairlaw06_cut.calls _ _ l0 100 t238 _ ?side1 ?side2 A8.out).mono ?_); (case side1 => repeat (first | exact (Kd.C_below HR0.out HB.out) | (with_reducible refine Kd.C_alloc ?_ _) | (with_reducible refine Kd.C_drewN ?_ _) | (with_reducible refine Kd.C_drew ?_))); (case side2 => exact HC0.out); rintro e w57 ⟨v239, rfl, ho0, hb⟩; refine ⟨_, rfl, ?_⟩; have n0_ := Aside0.mk (Kd.R_lower ho0 (below_size (by repeat (first | (with_reducible first | exact HB.out | apply below_alloc | apply pw_below_drewN | apply below_drew1) | exact HB.out)))); have n1_ := Aside0.mk (below_step (by repeat (first | (with_reducible first | exact HB.out | apply below_alloc | apply pw_below_drewN | apply below_drew1) | exact HB.out)) hb); clear HB; have HO240 := n0_; have HB := n1_; clear n0_ n1_; (try clear hb); (try clear hb2); (try clear hk); (try clear hi); (try clear ho0); obtain ⟨Ao58, co58, eo58⟩ := Kd.R_slice HO240.out; subst eo58) | (go_at_call 14; (with_reducible refine (rights_Spans.calls _ _ t238 a1 a2 t241 _ ?side1 ?side2 A10.out).mono ?_); (case side1 => repeat (first | exact (Kd.R_reads' HO240.out).2.2 | (with_reducible refine Kd.C_alloc ?_ _) | (with_reducible refine Kd.C_drewN ?_ _) | (with_reducible refine Kd.C_drew ?_))); (case side2 => exact (Kd.R_reads' HO240.out).2.1); rintro e w59 ⟨v242, rfl, ho0, hb⟩; have n0_ := Aside0.mk (Kd.R_below (by (with_reducible repeat (first | apply Kd.R_alloc | apply Kd.R_drewN | apply Kd.R_drew)); exact HO240.out) hb); have n1_ := Aside0.mk (Kd.R_lower ho0 (below_size (by repeat (first | (with_reducible first | exact HB.out | apply below_alloc | apply pw_below_drewN | apply below_drew1) | exact HB.out)))); have n2_ := Aside0.mk (below_step (by repeat (first | (with_reducible first | exact HB.out | apply below_alloc | apply pw_below_drewN | apply below_drew1) | exact HB.out)) hb); clear HO240; clear HB; have HO240 := n0_; have HO243 := n1_; have HB := n2_; clear n0_ n1_ n2_; (try clear hb); (try clear hb2); (try clear hk); (try clear hi); (try clear ho0)) | (go_at_call 15; (with_reducible refine (onairref06_Spans.calls k _ _ t238 a1 a2 t244 _ ?side1 ?side2 A11.out).mono ?_); (case side1 => repeat (first | exact (Kd.R_reads' HO240.out).2.2 | (with_reducible refine Kd.C_alloc ?_ _) | (with_reducible refine Kd.C_drewN ?_ _) | (with_reducible refine Kd.C_drew ?_))); (case side2 => exact (Kd.R_reads' HO240.out).2.1); rintro e w60 ⟨v245, rfl, ho0, hb⟩; have n0_ := Aside0.mk (Kd.R_below (by (with_reducible repeat (first | apply Kd.R_alloc | apply Kd.R_drewN | apply Kd.R_drew)); exact HO240.out) hb); have n1_ := Aside0.mk (Kd.R_elder' (by (with_reducible repeat (first | apply Kd.R_alloc | apply Kd.R_drewN | apply Kd.R_drew)); exact HO243.out) (Kd.R_base ho0) hb); have n2_ := Aside0.mk (Kd.R_lower (Kd.R_new' ho0 (Kd.R_lt (by (with_reducible repeat (first | apply Kd.R_alloc | apply Kd.R_drewN | apply Kd.R_drew)); exact HO243.out))) (below_size (by repeat (first | (with_reducible first | exact HB.out | apply below_alloc | apply pw_below_drewN | apply below_drew1) | exact HB.out)))); have n3_ := Aside0.mk (below_step (by repeat (first | (with_reducible first | exact HB.out | apply below_alloc | apply pw_below_drewN | apply below_drew1) | exact HB.out)) hb); clear HO240; clear HO243; clear HB; have HO240 := n0_; have HO243 := n1_; have HO246 := n2_; have HB := n3_; clear n0_ n1_ n2_ n3_; (try clear hb); (try clear hb2); (try clear hk); (try clear hi); (try clear ho0); obtain ⟨Ao61, co61, eo61⟩ := Kd.R_slice HO243.out; subst eo61; obtain ⟨Ao62, co62, eo62⟩ := Kd.R_slice HO246.out; subst eo62) | (go_at_call 13; (with_reducible refine (onairref06_SameSpans.calls k _ _ t241 _ _ t244 true _ ?side1 ?side2 ?side3 ?side4 A12.out).mono ?_); (case side1 => repeat (first | exact (Kd.R_reads' HO243.out).2.2 | (with_reducible refine Kd.C_alloc ?_ _) | (with_reducible refine Kd.C_drewN ?_ _) | (with_reducible refine Kd.C_drew ?_))); (case side2 => exact (Kd.R_reads' HO243.out).2.1); (case side3 => repeat (first | exact (Kd.R_reads' HO246.out).2.2 | (with_reducible refine Kd.C_alloc ?_ _) | (with_reducible refine Kd.C_drewN ?_ _) | (with_reducible refine Kd.C_drew ?_))); (case side4 => exact (Kd.R_reads' HO246.out).2.1); rintro e w' ⟨rfl, ⟨nd, rfl⟩⟩) | (go_at_call 16; (with_reducible refine (rights_Runs.calls _ _ t238 a1 a2 t248 _ ?side1 ?side2 A14.out).mono ?_); (case side1 => repeat (first | exact (Kd.R_reads' HO240.out).2.2 | (with_reducible refine Kd.C_alloc ?_ _) | (with_reducible refine Kd.C_drewN ?_ _) | (with_reducible refine Kd.C_drew ?_))); (case side2 => exact (Kd.R_reads' HO240.out).2.1); rintro e w63 ⟨rfl, hb⟩; have n0_ := Aside0.mk (Kd.R_below (by (with_reducible repeat (first | apply Kd.R_alloc | apply Kd.R_drewN | apply Kd.R_drew)); exact HO240.out) hb); have n1_ := Aside0.mk (Kd.R_below (by (with_reducible repeat (first | apply Kd.R_alloc | apply Kd.R_drewN | apply Kd.R_drew)); exact HO243.out) hb); have n2_ := Aside0.mk (Kd.R_below (by (with_reducible repeat (first | apply Kd.R_alloc | apply Kd.R_drewN | apply Kd.R_drew)); exact HO246.out) hb); have n3_ := Aside0.mk (below_step (by repeat (first | (with_reducible first | exact HB.out | apply below_alloc | apply pw_below_drewN | apply below_drew1) | exact HB.out)) hb); clear HO240; clear HO243; clear HO246; clear HB; have HO240 := n0_; have HO243 := n1_; have HO246 := n2_; have HB := n3_; clear n0_ n1_ n2_ n3_; (try clear hb); (try clear hb2); (try clear hk); (try clear hi)) | (go_at_call 17; (with_reducible refine (onairref06_Runs.calls k _ _ t238 a1 a2 t249 _ ?side1 ?side2 A15.out).mono ?_); (case side1 => repeat (first | exact (Kd.R_reads' HO240.out).2.2 | (with_reducible refine Kd.C_alloc ?_ _) | (with_reducible refine Kd.C_drewN ?_ _) | (with_reducible refine Kd.C_drew ?_))); (case side2 => exact (Kd.R_reads' HO240.out).2.1); rintro e w64 ⟨rfl, hb⟩; have n0_ := Aside0.mk (Kd.R_below (by (with_reducible repeat (first | apply Kd.R_alloc | apply Kd.R_drewN | apply Kd.R_drew)); exact HO240.out) hb); have n1_ := Aside0.mk (Kd.R_below (by (with_reducible repeat (first | apply Kd.R_alloc | apply Kd.R_drewN | apply Kd.R_drew)); exact HO243.out) hb); have n2_ := Aside0.mk (Kd.R_below (by (with_reducible repeat (first | apply Kd.R_alloc | apply Kd.R_drewN | apply Kd.R_drew)); exact HO246.out) hb); have n3_ := Aside0.mk (below_step (by repeat (first | (with_reducible first | exact HB.out | apply below_alloc | apply pw_below_drewN | apply below_drew1) | exact HB.out)) hb); clear HO240; clear HO243; clear HO246; clear HB; have HO240 := n0_; have HO243 := n1_; have HO246 := n2_; have HB := n3_; clear n0_ n1_ n2_ n3_; (try clear hb); (try clear hb2); (try clear hk); (try clear hi)) | (go_at_call 18; (with_reducible refine (rights_Gap.calls k _ _ t238 a3 a4 t250 _ ?side1 ?side2 A17.out).mono ?_); (case side1 => repeat (first | exact (Kd.R_reads' HO240.out).2.2 | (with_reducible refine Kd.C_alloc ?_ _) | (with_reducible refine Kd.C_drewN ?_ _) | (with_reducible refine Kd.C_drew ?_))); (case side2 => exact (Kd.R_reads' HO240.out).2.1); rintro e w65 ⟨rfl, hb⟩; have n0_ := Aside0.mk (Kd.R_below (by (with_reducible repeat (first | apply Kd.R_alloc | apply Kd.R_drewN | apply Kd.R_drew)); exact HO240.out) hb); have n1_ := Aside0.mk (Kd.R_below (by (with_reducible repeat (first | apply Kd.R_alloc | apply Kd.R_drewN | apply Kd.R_drew)); exact HO243.out) hb); have n2_ := Aside0.mk (Kd.R_below (by (with_reducible repeat (first | apply Kd.R_alloc | apply Kd.R_drewN | apply Kd.R_drew)); exact HO246.out) hb); have n3_ := Aside0.mk (below_step (by repeat (first | (with_reducible first | exact HB.out | apply below_alloc | apply pw_below_drewN | apply below_drew1) | exact HB.out)) hb); clear HO240; clear HO243; clear HO246; clear HB; have HO240 := n0_; have HO243 := n1_; have HO246 := n2_; have HB := n3_; clear n0_ n1_ n2_ n3_; (try clear hb); (try clear hb2); (try clear hk); (try clear hi)) | (go_at_call 19; (with_reducible refine (onairref06_Gap.calls k _ _ t238 a3 a4 t251 _ ?side1 ?side2 A18.out).mono ?_); (case side1 => repeat (first | exact (Kd.R_reads' HO240.out).2.2 | (with_reducible refine Kd.C_alloc ?_ _) | (with_reducible refine Kd.C_drewN ?_ _) | (with_reducible refine Kd.C_drew ?_))); (case side2 => exact (Kd.R_reads' HO240.out).2.1); rintro e w66 ⟨rfl, hb⟩; have n0_ := Aside0.mk (Kd.R_below (by (with_reducible repeat (first | apply Kd.R_alloc | apply Kd.R_drewN | apply Kd.R_drew)); exact HO240.out) hb); have n1_ := Aside0.mk (Kd.R_below (by (with_reducible repeat (first | apply Kd.R_alloc | apply Kd.R_drewN | apply Kd.R_drew)); exact HO243.out) hb); have n2_ := Aside0.mk (Kd.R_below (by (with_reducible repeat (first | apply Kd.R_alloc | apply Kd.R_drewN | apply Kd.R_drew)); exact HO246.out) hb); have n3_ := Aside0.mk (below_step (by repeat (first | (with_reducible first | exact HB.out | apply below_alloc | apply pw_below_drewN | apply below_drew1) | exact HB.out)) hb); clear HO240; clear HO243; clear HO246; clear HB; have HO240 := n0_; have HO243 := n1_; have HO246 := n2_; have HB := n3_; clear n0_ n1_ n2_ n3_; (try clear hb); (try clear hb2); (try clear hk); (try clear hi)))
          go_ret
          exact ⟨by first | rfl | (simp [errW_none, errW_some] <;> rfl) | (simp [*, errW_none, errW_some] <;> rfl), by repeat (first | (with_reducible first | exact HB.out | apply below_alloc | apply pw_below_drewN | apply below_drew1) | exact HB.out)⟩
      · rw [if_neg c16] at H
        have c16b0 : (t248 == t249) = false := beq_eq_false_iff_ne.mpr c16
        have c16b1 : (t248 != t249) = true := bne_iff_ne.mpr c16
        obtain rfl := Option.some.inj H
        go_enter Tryz.func4, Tryz.ntmps4
        go_wp2_with (first | ((with_reducible refine gate_callee (f := 8) rfl ?_); refine goesL_ (some 14) rfl rfl Tryz.func8 (by kernel_rfl) rfl #[] rfl (by (try simp only [List.map_toArray, List.map_cons, List.map_nil]); first | done | rfl | (simp only [List.length_drop, List.length_take]; rfl)) ?_; (with_reducible refine (onairlaw06_sane.calls  true _ A7.out (by first | exact HT.out | exact TabW.below HT.out (by repeat (first | (with_reducible first | exact HB.out | apply below_alloc | apply pw_below_drewN | apply below_drew1) | exact HB.out)))).mono ?_); rintro e w67 ⟨rfl, hb⟩; refine ⟨_, rfl, ?_⟩; have n0_ := Aside0.mk (below_step (by repeat (first | (with_reducible first | exact HB.out | apply below_alloc | apply pw_below_drewN | apply below_drew1) | exact HB.out)) hb); clear HB; have HB := n0_; clear n0_; (try clear hb); (try clear hb2); (try clear hk); (try clear hi)) | ((with_reducible refine gate_callee (f := 12) rfl ?_); refine goesL_ (some 16) rfl rfl Tryz.func12 (by kernel_rfl) rfl #[.slice A0 l0.length c0, .int .i64 100] rfl (by (try simp only [List.map_toArray, List.map_cons, List.map_nil]); first | done | rfl | (simp only [List.length_drop, List.length_take]; rfl)) ?_; (with_reducible refine (onairlaw06_cut.calls _ _ l0 100 t238 _ ?side1 ?side2 A8.out).mono ?_); (case side1 => repeat (first | exact (Kd.C_below HR0.out HB.out) | (with_reducible refine Kd.C_alloc ?_ _) | (with_reducible refine Kd.C_drewN ?_ _) | (with_reducible refine Kd.C_drew ?_))); (case side2 => exact HC0.out); rintro e w68 ⟨v239, rfl, ho0, hb⟩; refine ⟨_, rfl, ?_⟩; have n0_ := Aside0.mk (Kd.R_lower ho0 (below_size (by repeat (first | (with_reducible first | exact HB.out | apply below_alloc | apply pw_below_drewN | apply below_drew1) | exact HB.out)))); have n1_ := Aside0.mk (below_step (by repeat (first | (with_reducible first | exact HB.out | apply below_alloc | apply pw_below_drewN | apply below_drew1) | exact HB.out)) hb); clear HB; have HO240 := n0_; have HB := n1_; clear n0_ n1_; (try clear hb); (try clear hb2); (try clear hk); (try clear hi); (try clear ho0); obtain ⟨Ao69, co69, eo69⟩ := Kd.R_slice HO240.out; subst eo69) | (go_at_call 14; (with_reducible refine (rights_Spans.calls _ _ t238 a1 a2 t241 _ ?side1 ?side2 A10.out).mono ?_); (case side1 => repeat (first | exact (Kd.R_reads' HO240.out).2.2 | (with_reducible refine Kd.C_alloc ?_ _) | (with_reducible refine Kd.C_drewN ?_ _) | (with_reducible refine Kd.C_drew ?_))); (case side2 => exact (Kd.R_reads' HO240.out).2.1); rintro e w70 ⟨v242, rfl, ho0, hb⟩; have n0_ := Aside0.mk (Kd.R_below (by (with_reducible repeat (first | apply Kd.R_alloc | apply Kd.R_drewN | apply Kd.R_drew)); exact HO240.out) hb); have n1_ := Aside0.mk (Kd.R_lower ho0 (below_size (by repeat (first | (with_reducible first | exact HB.out | apply below_alloc | apply pw_below_drewN | apply below_drew1) | exact HB.out)))); have n2_ := Aside0.mk (below_step (by repeat (first | (with_reducible first | exact HB.out | apply below_alloc | apply pw_below_drewN | apply below_drew1) | exact HB.out)) hb); clear HO240; clear HB; have HO240 := n0_; have HO243 := n1_; have HB := n2_; clear n0_ n1_ n2_; (try clear hb); (try clear hb2); (try clear hk); (try clear hi); (try clear ho0)) | (go_at_call 15; (with_reducible refine (onairref06_Spans.calls k _ _ t238 a1 a2 t244 _ ?side1 ?side2 A11.out).mono ?_); (case side1 => repeat (first | exact (Kd.R_reads' HO240.out).2.2 | (with_reducible refine Kd.C_alloc ?_ _) | (with_reducible refine Kd.C_drewN ?_ _) | (with_reducible refine Kd.C_drew ?_))); (case side2 => exact (Kd.R_reads' HO240.out).2.1); rintro e w71 ⟨v245, rfl, ho0, hb⟩; have n0_ := Aside0.mk (Kd.R_below (by (with_reducible repeat (first | apply Kd.R_alloc | apply Kd.R_drewN | apply Kd.R_drew)); exact HO240.out) hb); have n1_ := Aside0.mk (Kd.R_elder' (by (with_reducible repeat (first | apply Kd.R_alloc | apply Kd.R_drewN | apply Kd.R_drew)); exact HO243.out) (Kd.R_base ho0) hb); have n2_ := Aside0.mk (Kd.R_lower (Kd.R_new' ho0 (Kd.R_lt (by (with_reducible repeat (first | apply Kd.R_alloc | apply Kd.R_drewN | apply Kd.R_drew)); exact HO243.out))) (below_size (by repeat (first | (with_reducible first | exact HB.out | apply below_alloc | apply pw_below_drewN | apply below_drew1) | exact HB.out)))); have n3_ := Aside0.mk (below_step (by repeat (first | (with_reducible first | exact HB.out | apply below_alloc | apply pw_below_drewN | apply below_drew1) | exact HB.out)) hb); clear HO240; clear HO243; clear HB; have HO240 := n0_; have HO243 := n1_; have HO246 := n2_; have HB := n3_; clear n0_ n1_ n2_ n3_; (try clear hb); (try clear hb2); (try clear hk); (try clear hi); (try clear ho0); obtain ⟨Ao72, co72, eo72⟩ := Kd.R_slice HO243.out; subst eo72; obtain ⟨Ao73, co73, eo73⟩ := Kd.R_slice HO246.out; subst eo73) | (go_at_call 13; (with_reducible refine (onairref06_SameSpans.calls k _ _ t241 _ _ t244 true _ ?side1 ?side2 ?side3 ?side4 A12.out).mono ?_); (case side1 => repeat (first | exact (Kd.R_reads' HO243.out).2.2 | (with_reducible refine Kd.C_alloc ?_ _) | (with_reducible refine Kd.C_drewN ?_ _) | (with_reducible refine Kd.C_drew ?_))); (case side2 => exact (Kd.R_reads' HO243.out).2.1); (case side3 => repeat (first | exact (Kd.R_reads' HO246.out).2.2 | (with_reducible refine Kd.C_alloc ?_ _) | (with_reducible refine Kd.C_drewN ?_ _) | (with_reducible refine Kd.C_drew ?_))); (case side4 => exact (Kd.R_reads' HO246.out).2.1); rintro e w' ⟨rfl, ⟨nd, rfl⟩⟩) | (go_at_call 16; (with_reducible refine (rights_Runs.calls _ _ t238 a1 a2 t248 _ ?side1 ?side2 A14.out).mono ?_); (case side1 => repeat (first | exact (Kd.R_reads' HO240.out).2.2 | (with_reducible refine Kd.C_alloc ?_ _) | (with_reducible refine Kd.C_drewN ?_ _) | (with_reducible refine Kd.C_drew ?_))); (case side2 => exact (Kd.R_reads' HO240.out).2.1); rintro e w74 ⟨rfl, hb⟩; have n0_ := Aside0.mk (Kd.R_below (by (with_reducible repeat (first | apply Kd.R_alloc | apply Kd.R_drewN | apply Kd.R_drew)); exact HO240.out) hb); have n1_ := Aside0.mk (Kd.R_below (by (with_reducible repeat (first | apply Kd.R_alloc | apply Kd.R_drewN | apply Kd.R_drew)); exact HO243.out) hb); have n2_ := Aside0.mk (Kd.R_below (by (with_reducible repeat (first | apply Kd.R_alloc | apply Kd.R_drewN | apply Kd.R_drew)); exact HO246.out) hb); have n3_ := Aside0.mk (below_step (by repeat (first | (with_reducible first | exact HB.out | apply below_alloc | apply pw_below_drewN | apply below_drew1) | exact HB.out)) hb); clear HO240; clear HO243; clear HO246; clear HB; have HO240 := n0_; have HO243 := n1_; have HO246 := n2_; have HB := n3_; clear n0_ n1_ n2_ n3_; (try clear hb); (try clear hb2); (try clear hk); (try clear hi)) | (go_at_call 17; (with_reducible refine (onairref06_Runs.calls k _ _ t238 a1 a2 t249 _ ?side1 ?side2 A15.out).mono ?_); (case side1 => repeat (first | exact (Kd.R_reads' HO240.out).2.2 | (with_reducible refine Kd.C_alloc ?_ _) | (with_reducible refine Kd.C_drewN ?_ _) | (with_reducible refine Kd.C_drew ?_))); (case side2 => exact (Kd.R_reads' HO240.out).2.1); rintro e w75 ⟨rfl, hb⟩; have n0_ := Aside0.mk (Kd.R_below (by (with_reducible repeat (first | apply Kd.R_alloc | apply Kd.R_drewN | apply Kd.R_drew)); exact HO240.out) hb); have n1_ := Aside0.mk (Kd.R_below (by (with_reducible repeat (first | apply Kd.R_alloc | apply Kd.R_drewN | apply Kd.R_drew)); exact HO243.out) hb); have n2_ := Aside0.mk (Kd.R_below (by (with_reducible repeat (first | apply Kd.R_alloc | apply Kd.R_drewN | apply Kd.R_drew)); exact HO246.out) hb); have n3_ := Aside0.mk (below_step (by repeat (first | (with_reducible first | exact HB.out | apply below_alloc | apply pw_below_drewN | apply below_drew1) | exact HB.out)) hb); clear HO240; clear HO243; clear HO246; clear HB; have HO240 := n0_; have HO243 := n1_; have HO246 := n2_; have HB := n3_; clear n0_ n1_ n2_ n3_; (try clear hb); (try clear hb2); (try clear hk); (try clear hi)))
        go_ret
        exact ⟨by first | rfl | (simp [errW_none, errW_some] <;> rfl) | (simp [*, errW_none, errW_some] <;> rfl), by repeat (first | (with_reducible first | exact HB.out | apply below_alloc | apply pw_below_drewN | apply below_drew1) | exact HB.out)⟩
    · replace c13 := Bool.eq_false_iff.mpr c13
      subst c13
      have H1 : (some false) = some r := by rw [if_neg (show ¬ (false = true) by decide)] at H; exact H
      clear H
      have H := H1
      clear H1
      obtain rfl := Option.some.inj H
      go_enter Tryz.func4, Tryz.ntmps4
      go_wp2_with (first | ((with_reducible refine gate_callee (f := 8) rfl ?_); refine goesL_ (some 14) rfl rfl Tryz.func8 (by kernel_rfl) rfl #[] rfl (by (try simp only [List.map_toArray, List.map_cons, List.map_nil]); first | done | rfl | (simp only [List.length_drop, List.length_take]; rfl)) ?_; (with_reducible refine (onairlaw06_sane.calls  true _ A7.out (by first | exact HT.out | exact TabW.below HT.out (by repeat (first | (with_reducible first | exact HB.out | apply below_alloc | apply pw_below_drewN | apply below_drew1) | exact HB.out)))).mono ?_); rintro e w76 ⟨rfl, hb⟩; refine ⟨_, rfl, ?_⟩; have n0_ := Aside0.mk (below_step (by repeat (first | (with_reducible first | exact HB.out | apply below_alloc | apply pw_below_drewN | apply below_drew1) | exact HB.out)) hb); clear HB; have HB := n0_; clear n0_; (try clear hb); (try clear hb2); (try clear hk); (try clear hi)) | ((with_reducible refine gate_callee (f := 12) rfl ?_); refine goesL_ (some 16) rfl rfl Tryz.func12 (by kernel_rfl) rfl #[.slice A0 l0.length c0, .int .i64 100] rfl (by (try simp only [List.map_toArray, List.map_cons, List.map_nil]); first | done | rfl | (simp only [List.length_drop, List.length_take]; rfl)) ?_; (with_reducible refine (onairlaw06_cut.calls _ _ l0 100 t238 _ ?side1 ?side2 A8.out).mono ?_); (case side1 => repeat (first | exact (Kd.C_below HR0.out HB.out) | (with_reducible refine Kd.C_alloc ?_ _) | (with_reducible refine Kd.C_drewN ?_ _) | (with_reducible refine Kd.C_drew ?_))); (case side2 => exact HC0.out); rintro e w77 ⟨v239, rfl, ho0, hb⟩; refine ⟨_, rfl, ?_⟩; have n0_ := Aside0.mk (Kd.R_lower ho0 (below_size (by repeat (first | (with_reducible first | exact HB.out | apply below_alloc | apply pw_below_drewN | apply below_drew1) | exact HB.out)))); have n1_ := Aside0.mk (below_step (by repeat (first | (with_reducible first | exact HB.out | apply below_alloc | apply pw_below_drewN | apply below_drew1) | exact HB.out)) hb); clear HB; have HO240 := n0_; have HB := n1_; clear n0_ n1_; (try clear hb); (try clear hb2); (try clear hk); (try clear hi); (try clear ho0); obtain ⟨Ao78, co78, eo78⟩ := Kd.R_slice HO240.out; subst eo78) | (go_at_call 14; (with_reducible refine (rights_Spans.calls _ _ t238 a1 a2 t241 _ ?side1 ?side2 A10.out).mono ?_); (case side1 => repeat (first | exact (Kd.R_reads' HO240.out).2.2 | (with_reducible refine Kd.C_alloc ?_ _) | (with_reducible refine Kd.C_drewN ?_ _) | (with_reducible refine Kd.C_drew ?_))); (case side2 => exact (Kd.R_reads' HO240.out).2.1); rintro e w79 ⟨v242, rfl, ho0, hb⟩; have n0_ := Aside0.mk (Kd.R_below (by (with_reducible repeat (first | apply Kd.R_alloc | apply Kd.R_drewN | apply Kd.R_drew)); exact HO240.out) hb); have n1_ := Aside0.mk (Kd.R_lower ho0 (below_size (by repeat (first | (with_reducible first | exact HB.out | apply below_alloc | apply pw_below_drewN | apply below_drew1) | exact HB.out)))); have n2_ := Aside0.mk (below_step (by repeat (first | (with_reducible first | exact HB.out | apply below_alloc | apply pw_below_drewN | apply below_drew1) | exact HB.out)) hb); clear HO240; clear HB; have HO240 := n0_; have HO243 := n1_; have HB := n2_; clear n0_ n1_ n2_; (try clear hb); (try clear hb2); (try clear hk); (try clear hi); (try clear ho0)) | (go_at_call 15; (with_reducible refine (onairref06_Spans.calls k _ _ t238 a1 a2 t244 _ ?side1 ?side2 A11.out).mono ?_); (case side1 => repeat (first | exact (Kd.R_reads' HO240.out).2.2 | (with_reducible refine Kd.C_alloc ?_ _) | (with_reducible refine Kd.C_drewN ?_ _) | (with_reducible refine Kd.C_drew ?_))); (case side2 => exact (Kd.R_reads' HO240.out).2.1); rintro e w80 ⟨v245, rfl, ho0, hb⟩; have n0_ := Aside0.mk (Kd.R_below (by (with_reducible repeat (first | apply Kd.R_alloc | apply Kd.R_drewN | apply Kd.R_drew)); exact HO240.out) hb); have n1_ := Aside0.mk (Kd.R_elder' (by (with_reducible repeat (first | apply Kd.R_alloc | apply Kd.R_drewN | apply Kd.R_drew)); exact HO243.out) (Kd.R_base ho0) hb); have n2_ := Aside0.mk (Kd.R_lower (Kd.R_new' ho0 (Kd.R_lt (by (with_reducible repeat (first | apply Kd.R_alloc | apply Kd.R_drewN | apply Kd.R_drew)); exact HO243.out))) (below_size (by repeat (first | (with_reducible first | exact HB.out | apply below_alloc | apply pw_below_drewN | apply below_drew1) | exact HB.out)))); have n3_ := Aside0.mk (below_step (by repeat (first | (with_reducible first | exact HB.out | apply below_alloc | apply pw_below_drewN | apply below_drew1) | exact HB.out)) hb); clear HO240; clear HO243; clear HB; have HO240 := n0_; have HO243 := n1_; have HO246 := n2_; have HB := n3_; clear n0_ n1_ n2_ n3_; (try clear hb); (try clear hb2); (try clear hk); (try clear hi); (try clear ho0); obtain ⟨Ao81, co81, eo81⟩ := Kd.R_slice HO243.out; subst eo81; obtain ⟨Ao82, co82, eo82⟩ := Kd.R_slice HO246.out; subst eo82) | (go_at_call 13; (with_reducible refine (onairref06_SameSpans.calls k _ _ t241 _ _ t244 false _ ?side1 ?side2 ?side3 ?side4 A12.out).mono ?_); (case side1 => repeat (first | exact (Kd.R_reads' HO243.out).2.2 | (with_reducible refine Kd.C_alloc ?_ _) | (with_reducible refine Kd.C_drewN ?_ _) | (with_reducible refine Kd.C_drew ?_))); (case side2 => exact (Kd.R_reads' HO243.out).2.1); (case side3 => repeat (first | exact (Kd.R_reads' HO246.out).2.2 | (with_reducible refine Kd.C_alloc ?_ _) | (with_reducible refine Kd.C_drewN ?_ _) | (with_reducible refine Kd.C_drew ?_))); (case side4 => exact (Kd.R_reads' HO246.out).2.1); rintro e w' ⟨rfl, ⟨nd, rfl⟩⟩))
      go_ret
      exact ⟨by first | rfl | (simp [errW_none, errW_some] <;> rfl) | (simp [*, errW_none, errW_some] <;> rfl), by repeat (first | (with_reducible first | exact HB.out | apply below_alloc | apply pw_below_drewN | apply below_drew1) | exact HB.out)⟩
  · replace c9 := Bool.eq_false_iff.mpr c9
    subst c9
    have H1 : (some false) = some r := by rw [if_neg (show ¬ (false = true) by decide)] at H; exact H
    clear H
    have H := H1
    clear H1
    obtain rfl := Option.some.inj H
    go_enter Tryz.func4, Tryz.ntmps4
    go_wp2_with (first | ((with_reducible refine gate_callee (f := 8) rfl ?_); refine goesL_ (some 14) rfl rfl Tryz.func8 (by kernel_rfl) rfl #[] rfl (by (try simp only [List.map_toArray, List.map_cons, List.map_nil]); first | done | rfl | (simp only [List.length_drop, List.length_take]; rfl)) ?_; (with_reducible refine (onairlaw06_sane.calls  false _ A7.out (by first | exact HT.out | exact TabW.below HT.out (by repeat (first | (with_reducible first | exact HB.out | apply below_alloc | apply pw_below_drewN | apply below_drew1) | exact HB.out)))).mono ?_); rintro e w83 ⟨rfl, hb⟩; refine ⟨_, rfl, ?_⟩; have n0_ := Aside0.mk (below_step (by repeat (first | (with_reducible first | exact HB.out | apply below_alloc | apply pw_below_drewN | apply below_drew1) | exact HB.out)) hb); clear HB; have HB := n0_; clear n0_; (try clear hb); (try clear hb2); (try clear hk); (try clear hi)) | ((with_reducible refine gate_callee (f := 12) rfl ?_); refine goesL_ (some 16) rfl rfl Tryz.func12 (by kernel_rfl) rfl #[.slice A0 l0.length c0, .int .i64 100] rfl (by (try simp only [List.map_toArray, List.map_cons, List.map_nil]); first | done | rfl | (simp only [List.length_drop, List.length_take]; rfl)) ?_; (with_reducible refine (onairlaw06_cut.calls _ _ l0 100 t238 _ ?side1 ?side2 A8.out).mono ?_); (case side1 => repeat (first | exact (Kd.C_below HR0.out HB.out) | (with_reducible refine Kd.C_alloc ?_ _) | (with_reducible refine Kd.C_drewN ?_ _) | (with_reducible refine Kd.C_drew ?_))); (case side2 => exact HC0.out); rintro e w84 ⟨v239, rfl, ho0, hb⟩; refine ⟨_, rfl, ?_⟩; have n0_ := Aside0.mk (Kd.R_lower ho0 (below_size (by repeat (first | (with_reducible first | exact HB.out | apply below_alloc | apply pw_below_drewN | apply below_drew1) | exact HB.out)))); have n1_ := Aside0.mk (below_step (by repeat (first | (with_reducible first | exact HB.out | apply below_alloc | apply pw_below_drewN | apply below_drew1) | exact HB.out)) hb); clear HB; have HO240 := n0_; have HB := n1_; clear n0_ n1_; (try clear hb); (try clear hb2); (try clear hk); (try clear hi); (try clear ho0)))
    go_ret
    exact ⟨by first | rfl | (simp [errW_none, errW_some] <;> rfl) | (simp [*, errW_none, errW_some] <;> rfl), by repeat (first | (with_reducible first | exact HB.out | apply below_alloc | apply pw_below_drewN | apply below_drew1) | exact HB.out)⟩

end Go.Proofs.YtpefhdjkpdjdpaaGreatDoor.R
namespace Go.Proofs.YtpefhdjkpdjdpaaGreatDoor.R
open Go.RowKit Go.Proofs.YtpefhdjkpdjdpaaGreatDoorW.PrintWords Go.Proofs.YtpefhdjkpdjdpaaGreatDoorW.PrintLast Go.Proofs.YtpefhdjkpdjdpaaGreatDoorW.PrintMore
attribute [local go_sem] max2_int min2_int max_two min_two max_three min_three max_four min_four   -- for this text's walks alone
set_option linter.unusedVariables false
set_option linter.unusedSimpArgs false
end Go.Proofs.YtpefhdjkpdjdpaaGreatDoor.R
namespace Go.Proofs.YtpefhdjkpdjdpaaGreatDoor.R
open Go Go.RowKit Go.Proofs.YtpefhdjkpdjdpaaGreatDoorW.PrintWords Go.Proofs.YtpefhdjkpdjdpaaGreatDoorW.PrintLast Go.Proofs.YtpefhdjkpdjdpaaGreatDoorW.PrintMore
theorem same_refl (a : List S65) (ha : a.length ≤ 1000000) : ∀ (m i k : Nat), i + m = a.length → onairref06_SameSpans.l0 (m + 1 + k) a a (i : Int) = some true
  | 0, i, k, h => by
    rw [show 0 + 1 + k = k + 1 by omega]
    unfold onairref06_SameSpans.l0
    rw [if_neg (by omega)]
  | m + 1, i, k, h => by
    rw [show m + 1 + 1 + k = (m + 1 + k) + 1 by omega]
    unfold onairref06_SameSpans.l0
    have hw : wrap64 ((i : Int) + 1) = ((i + 1 : Nat) : Int) := by unfold wrap64; omega
    rw [if_pos (by omega), if_pos (by omega), if_pos (by omega), if_pos rfl, if_pos rfl, hw]
    exact same_refl a ha m (i + 1) k (by omega)
theorem same_f (a : List S65) (ha : a.length ≤ 1000000) (k : Nat) : onairref06_SameSpans.f (a.length + 1 + k) a a = some true := by
  unfold onairref06_SameSpans.f
  rw [if_pos rfl]
  exact same_refl a ha a.length 0 k (by omega)
def nextW (a3 : Int) (x10 : Bool) (y : S40) : Bool := if decide (y.f2 ≤ a3) && decide (a3 < y.f3) then y.f0 == 1 else x10
theorem decS_snoc (cnt : List S40) (y : S40) (x : Int) : decS (cnt ++ [y]) x = nextW x (decS cnt x) y := by
  unfold decS nextW
  rw [List.foldl_append]
  rfl
theorem stepN_len (out : List S65) (v : S65) : (stepN out v).length ≤ out.length + 1 := by
  rcases List.eq_nil_or_concat out with rfl | ⟨ini, o, rfl⟩
  · simp [stepN]
  · rw [List.concat_eq_append, stepN_snoc]
    split <;> simp
theorem foldl_len : ∀ (ys out : List S65), (ys.foldl stepN out).length ≤ out.length + ys.length
  | [], out => by simp
  | v :: r, out => by
    have h1 := foldl_len r (stepN out v)
    have h2 := stepN_len out v
    rw [List.foldl_cons, List.length_cons]
    omega
theorem normT_len (l : List S65) : (normT l).length ≤ l.length := by
  have := foldl_len (l.mergeSort fun x y => decide (x.f0 ≤ y.f0)) []
  rw [List.length_mergeSort] at this
  simpa [normT, mergeN] using this
theorem spansOf_len (cnt : List S40) : (spansOf cnt).length ≤ cnt.length * 2 := by
  have h1 := normT_len (winK (bsOf cnt) (won (bsOf cnt) cnt) (bsOf cnt).length)
  have h2 := winK_len (bsOf cnt) (won (bsOf cnt) cnt) (bsOf cnt).length
  have h3 := Lib.compact_length_le ((boundsOf cnt).mergeSort fun x y => decide (x ≤ y))
  rw [List.length_mergeSort, bounds_len] at h3
  unfold spansOf
  have h4 : (bsOf cnt).length ≤ cnt.length * 2 := h3
  omega
theorem cut_f (l : List S40) (n : Int) (h0 : 0 ≤ n) (h1 : n ≤ 1000) : onairlaw06_cut.f l n = some (l.take n.toNat) := by
  unfold onairlaw06_cut.f mn
  have e : l.take (if n < (l.length : Int) then n else (l.length : Int)).toNat = l.take n.toNat := by
    split
    · rfl
    · rw [List.take_of_length_le (by omega), List.take_of_length_le (by omega)]
  simp only [Option.bind_some]
  rw [if_pos (by split <;> omega), if_pos (by split <;> omega), e, if_pos (by simp; omega)]
  rfl
end Go.Proofs.YtpefhdjkpdjdpaaGreatDoor.R
namespace Go.Proofs.YtpefhdjkpdjdpaaGreatDoor.R
open Go Go.RowKit Go.Proofs.YtpefhdjkpdjdpaaGreatDoorW.PrintWords Go.Proofs.YtpefhdjkpdjdpaaGreatDoorW.PrintLast Go.Proofs.YtpefhdjkpdjdpaaGreatDoorW.PrintMore
theorem leO_add {α : Type} {f : Nat → Option α} (hm : ∀ k, LeO (f k) (f (k + 1))) {K : Nat} {r : α} (h : f K = some r) : ∀ k, f (K + k) = some r
  | 0 => h
  | k + 1 => hm _ _ (leO_add hm h k)
theorem rhas_in : ∀ R : Fin 256, ∀ r : Fin 8, onairref06_Has.f 9 (R.val : Int) (r.val : Int) = some (inReg (R.val : Int) (r.val : Int)) := by decide +kernel
theorem rhas_out (x1 : Int) (h : x1 < 0 ∨ 7 < x1) : ∀ (m : Nat) (R : Int) (i : Nat), i + m = 8 → onairref06_Has.l0 (m + 1) R x1 (i : Int) = some false
  | 0, R, i, hi => by
    unfold onairref06_Has.l0
    rw [if_neg (by omega)]
  | m + 1, R, i, hi => by
    have w : wrap64 ((i : Int) + 1) = ((i + 1 : Nat) : Int) := by unfold wrap64; omega
    unfold onairref06_Has.l0
    rw [if_pos (by omega), if_neg (by omega), w]
    exact rhas_out x1 h m _ (i + 1) (by omega)
theorem rhas_f (k : Nat) (R r : Int) (h0 : 0 ≤ R) (h1 : R ≤ 255) : onairref06_Has.f (9 + k) R r = some (decide (0 ≤ r) && decide (r ≤ 7) && inReg R r) := by
  by_cases hr : 0 ≤ r ∧ r ≤ 7
  · have h := rhas_in ⟨R.toNat, by omega⟩ ⟨r.toNat, by omega⟩
    have e1 : ((R.toNat : Nat) : Int) = R := by omega
    have e2 : ((r.toNat : Nat) : Int) = r := by omega
    simp only [e1, e2] at h
    rw [leO_add (f := fun k => onairref06_Has.f k R r) (fun k => onairref06_Has.mono R r k) h k, decide_eq_true hr.1, decide_eq_true hr.2]
    rfl
  · have h := rhas_out r (by omega) 8 R 0 rfl
    have h2 : onairref06_Has.f 9 R r = some false := h
    rw [leO_add (f := fun k => onairref06_Has.f k R r) (fun k => onairref06_Has.mono R r k) h2 k]
    have : (decide (0 ≤ r) && decide (r ≤ 7)) = false := by
      rw [Bool.and_eq_false_iff, decide_eq_false_iff_not, decide_eq_false_iff_not]
      omega
    rw [this]
    rfl
theorem vld_regs4 {y : S40} (h : vld y = true) (_h0 : y.f0 = 1 ∨ y.f0 = 2 ∨ y.f0 = 3 ∨ y.f0 = 4) : 0 ≤ y.f4 ∧ y.f4 ≤ 255 := by
  rcases vld_cases y h with h | h | h | h <;> omega
theorem counts_f (k : Nat) (y : S40) (kind item region : Int) (hk : kind = 1 ∨ kind = 2 ∨ kind = 3 ∨ kind = 4) : onairref06_counts.f (9 + k) y.f0 y.f1 y.f2 y.f3 y.f4 y.f5 y.f6 y.f7 kind item region = some (hit kind item region y) := by
  unfold onairref06_counts.f hit conc
  by_cases h1 : y.f0 = kind
  · rw [if_pos h1, show 9 + k = (7 + k) + 2 by omega, rvalid_f, Option.bind_some]
    have e1 : (y.f0 == kind) = true := beq_iff_eq.2 h1
    rw [e1, Bool.true_and]
    by_cases hv : vld y = true
    · rw [if_pos hv, hv, Bool.and_true]
      by_cases hi : y.f1 = item
      · rw [if_pos hi]
        have hr := vld_regs4 hv (by rw [h1]; exact hk)
        rw [show (7 + k) + 2 = 9 + k by omega, rhas_f k y.f4 region hr.1 hr.2, Option.bind_some, show (y.f1 == item) = true from beq_iff_eq.2 hi, Bool.and_true]
      · rw [if_neg hi, show (y.f1 == item) = false from beq_eq_false_iff_ne.2 hi, Bool.and_false, Bool.false_and]
    · rw [if_neg hv]
      rw [Bool.not_eq_true] at hv
      rw [hv, Bool.and_false]
  · rw [if_neg h1, show (y.f0 == kind) = false from beq_eq_false_iff_ne.2 h1, Bool.false_and, Bool.false_and]
theorem downto_snoc (l : List S40) (y : S40) : downto (l ++ [y]) (l ++ [y]).length = (l.length, y) :: downto l l.length := by
  have hl : (l ++ [y]).length = l.length + 1 := by simp
  rw [hl]
  unfold downto
  rw [List.range_succ_eq_map, List.map_cons, List.map_map, hl]
  congr 1
  · simp [rd_T40]
  · apply List.map_congr_left
    intro j hj
    have hj' : j < l.length := by simpa using hj
    have e : l.length + 1 - 1 - (j + 1) = l.length - 1 - j := by omega
    simp only [Function.comp, Nat.succ_eq_add_one, e]
    have hlt : l.length - 1 - j < l.length := by omega
    simp [rd_T40, List.getElem?_append_left hlt]
theorem lastOf_snoc (l : List S40) (y : S40) (kind item region none_ : Int) : lastOf (l ++ [y]) kind item region none_ = if hit kind item region y then y.f5 else lastOf l kind item region none_ := by
  unfold lastOf
  rw [downto_snoc, List.find?_cons]
  cases hit kind item region y <;> simp
theorem runs_l0 (l : List S40) (hl : l.length ≤ 1000) (item region : Int) (k : Nat) : ∀ m, m ≤ l.length → onairref06_Runs.l0 (9 + k + m + 1) l item region ((m : Int) - 1) = some (lastOf (l.take m) 3 item region (-1))
  | 0, _ => by
    unfold onairref06_Runs.l0
    rw [if_neg (by omega)]
    rfl
  | m + 1, hm => by
    have ih := runs_l0 l hl item region k m (by omega)
    have e : ((m + 1 : Nat) : Int) - 1 = (m : Int) := by omega
    have w : wrap64 ((m : Int) - 1) = (m : Int) - 1 := by unfold wrap64; omega
    have ht : l.take (m + 1) = l.take m ++ [rd_T40 l (m : Int)] := by rw [List.take_add_one]; simp [rd_T40, show m < l.length by omega]
    rw [e]
    unfold onairref06_Runs.l0
    rw [if_pos (by omega), if_pos (by omega), if_pos (by omega), show 9 + k + (m + 1) = 9 + (k + m + 1) by omega, counts_f (k + m + 1) _ 3 item region (by omega), Option.bind_some, ht, lastOf_snoc, w]
    rw [show 9 + (k + m + 1) = 9 + k + m + 1 by omega, ih]
    split <;> rfl
theorem catchup_l0 (l : List S40) (hl : l.length ≤ 1000) (item region : Int) (k : Nat) : ∀ m, m ≤ l.length → onairref06_Catchup.l0 (9 + k + m + 1) l item region ((m : Int) - 1) = some (lastOf (l.take m) 4 item region 0)
  | 0, _ => by
    unfold onairref06_Catchup.l0
    rw [if_neg (by omega)]
    rfl
  | m + 1, hm => by
    have ih := catchup_l0 l hl item region k m (by omega)
    have e : ((m + 1 : Nat) : Int) - 1 = (m : Int) := by omega
    have w : wrap64 ((m : Int) - 1) = (m : Int) - 1 := by unfold wrap64; omega
    have ht : l.take (m + 1) = l.take m ++ [rd_T40 l (m : Int)] := by rw [List.take_add_one]; simp [rd_T40, show m < l.length by omega]
    rw [e]
    unfold onairref06_Catchup.l0
    rw [if_pos (by omega), if_pos (by omega), if_pos (by omega), show 9 + k + (m + 1) = 9 + (k + m + 1) by omega, counts_f (k + m + 1) _ 4 item region (by omega), Option.bind_some, ht, lastOf_snoc, w]
    rw [show 9 + (k + m + 1) = 9 + k + m + 1 by omega, ih]
    split <;> rfl
end Go.Proofs.YtpefhdjkpdjdpaaGreatDoor.R
namespace Go.Proofs.YtpefhdjkpdjdpaaGreatDoor.R
open Go Go.RowKit Go.Proofs.YtpefhdjkpdjdpaaGreatDoorW.PrintWords Go.Proofs.YtpefhdjkpdjdpaaGreatDoorW.PrintLast Go.Proofs.YtpefhdjkpdjdpaaGreatDoorW.PrintMore
def stepT (r : Int) (acc : List S65) (y : S40) : List S65 := if y.f0 = 6 ∧ vld y = true ∧ y.f6 ≤ r then acc ++ [⟨y.f2, y.f3⟩] else acc
theorem wat1 (l : List S40) (hl : l.length ≤ 1000) (r : Int) (k : Nat) : ∀ (m i : Nat) (acc : List S65), i + m = l.length → acc.length ≤ i → rights_Watersheds.l0 (m + 3 + k) r acc l (l.length : Int) (i : Int) = some ((l.drop i).foldl (stepT r) acc)
  | 0, i, acc, h, _ => by
    obtain rfl : i = l.length := by omega
    rw [show 0 + 3 + k = (2 + k) + 1 by omega]
    unfold rights_Watersheds.l0
    rw [if_neg (by omega), List.drop_length]
    rfl
  | m + 1, i, acc, h, ha => by
    have ih := fun acc (ha : acc.length ≤ i + 1) => wat1 l hl r k m (i + 1) acc (by omega) ha
    have w : wrap64 ((i : Int) + 1) = ((i + 1 : Nat) : Int) := by unfold wrap64; omega
    rw [drop_at l i (by omega), List.foldl_cons, show m + 1 + 3 + k = (m + 3 + k) + 1 by omega]
    unfold rights_Watersheds.l0
    rw [if_pos (by omega), if_pos (by omega), if_pos (by omega)]
    generalize rd_T40 l (i : Int) = y
    have hv : rights_Valid.f (m + 3 + k) y.f0 y.f1 y.f2 y.f3 y.f4 y.f5 y.f6 y.f7 = some (vld y) := by rw [show m + 3 + k = (m + 1 + k) + 2 by omega]; exact valid_f _ y
    have i1 := ih acc (by omega)
    have i2 := ih (acc ++ [⟨y.f2, y.f3⟩]) (by simp; omega)
    have hlt : acc.length < 8796093022208 := by omega
    simp only [hv, Option.bind_some, w, i1, i2]
    unfold stepT
    by_cases c1 : y.f0 = 6 <;> by_cases c2 : y.f6 ≤ r <;> by_cases c3 : vld y = true <;> simp [c1, c2, c3, hlt]
theorem wat2 (l : List S40) (hl : l.length ≤ 1000) (r : Int) (k : Nat) : ∀ (m i : Nat) (acc : List S65), i + m = l.length → acc.length ≤ i → onairref06_Watersheds.l0 (m + 3 + k) l r acc (i : Int) = some ((l.drop i).foldl (stepT r) acc)
  | 0, i, acc, h, _ => by
    obtain rfl : i = l.length := by omega
    rw [show 0 + 3 + k = (2 + k) + 1 by omega]
    unfold onairref06_Watersheds.l0
    rw [if_neg (by omega), List.drop_length]
    rfl
  | m + 1, i, acc, h, ha => by
    have ih := fun acc (ha : acc.length ≤ i + 1) => wat2 l hl r k m (i + 1) acc (by omega) ha
    have w : wrap64 ((i : Int) + 1) = ((i + 1 : Nat) : Int) := by unfold wrap64; omega
    rw [drop_at l i (by omega), List.foldl_cons, show m + 1 + 3 + k = (m + 3 + k) + 1 by omega]
    unfold onairref06_Watersheds.l0
    rw [if_pos (by omega), if_pos (by omega)]
    generalize rd_T40 l (i : Int) = y
    have hv : onairref06_Valid.f (m + 3 + k) y.f0 y.f1 y.f2 y.f3 y.f4 y.f5 y.f6 y.f7 = some (vld y) := by rw [show m + 3 + k = (m + 1 + k) + 2 by omega]; exact rvalid_f _ y
    have i1 := ih acc (by omega)
    have i2 := ih (acc ++ [⟨y.f2, y.f3⟩]) (by simp; omega)
    have hlt : acc.length < 8796093022208 := by omega
    simp only [hv, Option.bind_some, w, i1, i2]
    unfold stepT
    by_cases c1 : y.f0 = 6 <;> by_cases c2 : y.f6 ≤ r <;> by_cases c3 : vld y = true <;> simp [c1, c2, c3, hlt]
theorem stepT_len (r : Int) : ∀ (l : List S40) (acc : List S65), (l.foldl (stepT r) acc).length ≤ acc.length + l.length
  | [], acc => by simp
  | y :: q, acc => by
    have := stepT_len r q (stepT r acc y)
    have h2 : (stepT r acc y).length ≤ acc.length + 1 := by unfold stepT; split <;> simp
    rw [List.foldl_cons, List.length_cons]
    omega
end Go.Proofs.YtpefhdjkpdjdpaaGreatDoor.R
namespace Go.Proofs.YtpefhdjkpdjdpaaGreatDoor.R
open Go Go.RowKit Go.Proofs.YtpefhdjkpdjdpaaGreatDoorW.PrintWords Go.Proofs.YtpefhdjkpdjdpaaGreatDoorW.PrintLast Go.Proofs.YtpefhdjkpdjdpaaGreatDoorW.PrintMore
theorem canonI : ∀ (a b : List Int), a.Pairwise (· < ·) → b.Pairwise (· < ·) → (∀ x, x ∈ a ↔ x ∈ b) → a = b
  | [], [], _, _, _ => rfl
  | [], s :: r, _, _, h => by have := (h s).2 List.mem_cons_self; cases this
  | s :: r, [], _, _, h => by have := (h s).1 List.mem_cons_self; cases this
  | s :: r, t :: q, ha, hb, h => by
    have pa := List.pairwise_cons.1 ha
    have pb := List.pairwise_cons.1 hb
    have e : s = t := by
      rcases List.mem_cons.1 ((h s).1 List.mem_cons_self) with h1 | h1
      · exact h1
      · rcases List.mem_cons.1 ((h t).2 List.mem_cons_self) with h2 | h2
        · exact h2.symm
        · have := pb.1 s h1; have := pa.1 t h2; omega
    subst e
    rw [canonI r q pa.2 pb.2 fun x => ?_]
    constructor
    · intro hx
      have := pa.1 x hx
      rcases List.mem_cons.1 ((h x).1 (List.mem_cons_of_mem _ hx)) with h2 | h2
      · omega
      · exact h2
    · intro hx
      have := pb.1 x hx
      rcases List.mem_cons.1 ((h x).2 (List.mem_cons_of_mem _ hx)) with h2 | h2
      · omega
      · exact h2
theorem rd_at (es : List Int) (i : Nat) : rd es (i : Int) = es.getD i 0 := by simp [rd]
theorem getD_mem (es : List Int) (i : Nat) (h : i < es.length) : es.getD i 0 ∈ es := by
  rw [show es.getD i 0 = es[i] by simp [List.getD, h]]
  exact List.getElem_mem h
/-- What put answers. -/
structure PutR (es : List Int) (x : Int) (r : List Int) : Prop where
  strict : r.Pairwise (· < ·)
  mem : ∀ y, y ∈ r ↔ y ∈ es ∨ y = x
theorem put_mid (es : List Int) (x : Int) (i : Nat) (hs : es.Pairwise (· < ·)) (hlo : ∀ y ∈ es.take i, y < x) (hhi : ∀ y ∈ es.drop i, x < y) : PutR es x (es.take i ++ ([x] ++ es.drop i)) := by
  refine ⟨List.pairwise_append.2 ⟨hs.sublist (List.take_sublist _ _), List.pairwise_cons.2 ⟨hhi, hs.sublist (List.drop_sublist _ _)⟩, fun a ha b hb => ?_⟩, fun y => ?_⟩
  · rcases List.mem_cons.1 hb with rfl | hb
    · exact hlo a ha
    · have := hlo a ha; have := hhi b hb; omega
  · have e : y ∈ es ↔ y ∈ es.take i ∨ y ∈ es.drop i := by rw [← List.mem_append, List.take_append_drop]
    rw [e, List.mem_append, List.mem_append, List.mem_singleton]
    constructor
    · rintro (h | h | h)
      · exact .inl (.inl h)
      · exact .inr h
      · exact .inl (.inr h)
    · rintro ((h | h) | h)
      · exact .inl h
      · exact .inr (.inr h)
      · exact .inr (.inl h)
theorem put_l0 (es : List Int) (x : Int) (hs : es.Pairwise (· < ·)) (hl : es.length ≤ 100000) (k : Nat) : ∀ (m i : Nat), i + m = es.length → (∀ y ∈ es.take i, y < x) → ∃ r, onairref06_put.l0 (m + 1 + k) es x (i : Int) = some r ∧ PutR es x r
  | 0, i, h, hlo => by
    obtain rfl : i = es.length := by omega
    refine ⟨es.take es.length ++ ([x] ++ es.drop es.length), ?_, put_mid es x _ hs hlo (by simp)⟩
    rw [show 0 + 1 + k = k + 1 by omega]
    unfold onairref06_put.l0
    rw [if_neg (by omega)]
    simp only [Option.bind_some]
    rw [if_pos (by omega), if_pos (by omega), if_pos (by simp), if_pos (by simp; omega), if_pos (by simp; omega)]
    simp
  | m + 1, i, h, hlo => by
    rw [show m + 1 + 1 + k = (m + 1 + k) + 1 by omega]
    unfold onairref06_put.l0
    rw [if_pos (by omega), if_pos (by omega), rd_at]
    have hi : i < es.length := by omega
    have w : wrap64 ((i : Int) + 1) = ((i + 1 : Nat) : Int) := by unfold wrap64; omega
    have hd : es.drop i = es.getD i 0 :: es.drop (i + 1) := by rw [List.drop_eq_getElem_cons hi]; simp [List.getD, hi]
    have ht : es.take (i + 1) = es.take i ++ [es.getD i 0] := by rw [List.take_add_one]; simp [List.getD, hi]
    have hsd : (es.drop i).Pairwise (· < ·) := hs.sublist (List.drop_sublist _ _)
    rw [hd] at hsd
    have pc := List.pairwise_cons.1 hsd
    by_cases h1 : es.getD i 0 < x
    · rw [if_pos h1, w]
      exact put_l0 es x hs hl k m (i + 1) (by omega) (fun y hy => by
        rw [ht] at hy
        rcases List.mem_append.1 hy with hy | hy
        · exact hlo y hy
        · obtain rfl : y = es.getD i 0 := by simpa using hy
          exact h1)
    · rw [if_neg h1]
      by_cases h2 : es.getD i 0 = x
      · rw [if_pos h2]
        exact ⟨es, rfl, hs, fun y => ⟨.inl, fun h => by
          rcases h with h | rfl
          · exact h
          · rw [← h2]; exact getD_mem es i hi⟩⟩
      · rw [if_neg h2]
        refine ⟨es.take i ++ ([x] ++ es.drop i), ?_, put_mid es x i hs hlo (fun y hy => ?_)⟩
        · simp only [Option.bind_some]
          rw [if_pos (by omega), if_pos (by simp; omega), if_pos (by simp; omega), if_pos (by simp; omega)]
          simp
        · rw [hd] at hy
          rcases List.mem_cons.1 hy with rfl | hy
          · omega
          · have := pc.1 y hy; omega
theorem put_f (es : List Int) (x : Int) (hs : es.Pairwise (· < ·)) (hl : es.length ≤ 100000) (k : Nat) : ∃ r, onairref06_put.f (es.length + 1 + k) es x = some r ∧ PutR es x r :=
  put_l0 es x hs hl k es.length 0 (by omega) (by simp)
theorem granted_l0 (l : List S40) (hl : l.length ≤ 1000) (x : Int) (k : Nat) : ∀ m, m ≤ l.length → onairref06_granted.l0 (m + 1 + k) l x ((m : Int) - 1) = some (decS (l.take m) x)
  | 0, _ => by
    rw [show 0 + 1 + k = k + 1 by omega]
    unfold onairref06_granted.l0
    rw [if_neg (by omega)]
    rfl
  | m + 1, hm => by
    have ih := granted_l0 l hl x k m (by omega)
    have e : ((m + 1 : Nat) : Int) - 1 = (m : Int) := by omega
    have w : wrap64 ((m : Int) - 1) = (m : Int) - 1 := by unfold wrap64; omega
    have ht : l.take (m + 1) = l.take m ++ [rd_T40 l (m : Int)] := by rw [List.take_add_one]; simp [rd_T40, show m < l.length by omega]
    rw [e, show m + 1 + 1 + k = (m + 1 + k) + 1 by omega]
    unfold onairref06_granted.l0
    rw [if_pos (by omega), if_pos (by omega), if_pos (by omega), w, ih, ht, decS_snoc]
    generalize rd_T40 l (m : Int) = y
    unfold nextW
    by_cases h1 : y.f2 ≤ x <;> by_cases h2 : x < y.f3 <;> simp [h1, h2]
theorem granted_f (l : List S40) (hl : l.length ≤ 1000) (x : Int) (k : Nat) : onairref06_granted.f (l.length + 1 + k) l x = some (decS l x) := by
  have h := granted_l0 l hl x k l.length (Nat.le_refl _)
  have w : wrap64 ((l.length : Int) - 1) = (l.length : Int) - 1 := by unfold wrap64; omega
  rw [List.take_length] at h
  unfold onairref06_granted.f
  rw [w]
  exact h
/-- The windows before i, merged. -/
structure InvW (own : List S40) (out : List S65) (i : Nat) : Prop where
  valid : validS out
  top : ∀ s ∈ out, s.f1 ≤ (bsOf own).getD i 0
  mem : ∀ x, inS out x ↔ ∃ t, t < i ∧ decS own ((bsOf own).getD t 0) = true ∧ (bsOf own).getD t 0 ≤ x ∧ x < (bsOf own).getD (t + 1) 0
  len : out.length ≤ i
theorem InvW.skip {own : List S40} {out : List S65} {i : Nat} (h : InvW own out i) (hi : i + 1 < (bsOf own).length) (hg : decS own ((bsOf own).getD i 0) = false) : InvW own out (i + 1) := by
  have hlt := strict_at (bsOf_strict own) hi (Nat.lt_succ_self i)
  refine ⟨h.valid, fun s hs => by have := h.top s hs; omega, fun x => (h.mem x).trans ?_, Nat.le_succ_of_le h.len⟩
  constructor
  · rintro ⟨t, a, b⟩
    exact ⟨t, by omega, b⟩
  · rintro ⟨t, a, b, c⟩
    rcases Nat.lt_succ_iff_lt_or_eq.1 a with a | rfl
    · exact ⟨t, a, b, c⟩
    · rw [hg] at b; cases b
theorem mem_step {own : List S40} {out out' : List S65} {i : Nat} (h : InvW own out i) (hg : decS own ((bsOf own).getD i 0) = true) (hm : ∀ x, inS out' x ↔ inS out x ∨ ((bsOf own).getD i 0 ≤ x ∧ x < (bsOf own).getD (i + 1) 0)) :
    ∀ x, inS out' x ↔ ∃ t, t < i + 1 ∧ decS own ((bsOf own).getD t 0) = true ∧ (bsOf own).getD t 0 ≤ x ∧ x < (bsOf own).getD (t + 1) 0 := fun x => by
  rw [hm, h.mem x]
  constructor
  · rintro (⟨t, a, b⟩ | b)
    · exact ⟨t, by omega, b⟩
    · exact ⟨i, Nat.lt_succ_self i, hg, b⟩
  · rintro ⟨t, a, b, c⟩
    rcases Nat.lt_succ_iff_lt_or_eq.1 a with a | rfl
    · exact .inl ⟨t, a, b, c⟩
    · exact .inr c
theorem InvW.app {own : List S40} {out : List S65} {i : Nat} (h : InvW own out i) (hi : i + 1 < (bsOf own).length) (hg : decS own ((bsOf own).getD i 0) = true) (hne : ∀ s ∈ out, s.f1 < (bsOf own).getD i 0) : InvW own (out ++ [⟨(bsOf own).getD i 0, (bsOf own).getD (i + 1) 0⟩]) (i + 1) := by
  have hlt := strict_at (bsOf_strict own) hi (Nat.lt_succ_self i)
  refine ⟨⟨fun s hs => ?_, List.pairwise_append.2 ⟨h.valid.2, List.pairwise_singleton _ _, fun a ha b hb => ?_⟩⟩, fun s hs => ?_, mem_step h hg fun x => ?_, by simp; exact h.len⟩
  · rcases List.mem_append.1 hs with hs | hs
    · exact h.valid.1 s hs
    · obtain rfl : s = _ := by simpa using hs
      exact hlt
  · obtain rfl : b = _ := by simpa using hb
    exact hne a ha
  · rcases List.mem_append.1 hs with hs | hs
    · have := h.top s hs; omega
    · obtain rfl : s = _ := by simpa using hs
      exact Int.le_refl _
  · rw [inS_append, inS_cons]
    simp [inS_nil]
theorem InvW.ext {own : List S40} {ini : List S65} {o : S65} {i : Nat} (h : InvW own (ini ++ [o]) i) (hi : i + 1 < (bsOf own).length) (hg : decS own ((bsOf own).getD i 0) = true) (he : o.f1 = (bsOf own).getD i 0) : InvW own (ini ++ [⟨o.f0, (bsOf own).getD (i + 1) 0⟩]) (i + 1) := by
  have hlt := strict_at (bsOf_strict own) hi (Nat.lt_succ_self i)
  have ho := h.valid.1 o (by simp)
  have hp := List.pairwise_append.1 h.valid.2
  refine ⟨⟨fun s hs => ?_, List.pairwise_append.2 ⟨hp.1, List.pairwise_singleton _ _, fun a ha b hb => ?_⟩⟩, fun s hs => ?_, mem_step h hg fun x => ?_, ?_⟩
  · rcases List.mem_append.1 hs with hs | hs
    · exact h.valid.1 s (by simp [hs])
    · obtain rfl : s = _ := by simpa using hs
      show o.f0 < (bsOf own).getD (i + 1) 0
      omega
  · obtain rfl : b = _ := by simpa using hb
    exact hp.2.2 a ha o (by simp)
  · rcases List.mem_append.1 hs with hs | hs
    · have := h.top s (by simp [hs]); omega
    · obtain rfl : s = _ := by simpa using hs
      exact Int.le_refl _
  · rw [inS_append, inS_append, inS_cons, inS_cons]
    simp only [inS_nil, or_false]
    show (_ ∨ (o.f0 ≤ x ∧ x < (bsOf own).getD (i + 1) 0)) ↔ _
    constructor
    · rintro (h1 | h1)
      · exact .inl (.inl h1)
      · by_cases hx : x < o.f1
        · exact .inl (.inr ⟨h1.1, hx⟩)
        · exact .inr (by omega)
    · rintro ((h1 | h1) | h1)
      · exact .inl h1
      · exact .inr (by omega)
      · exact .inr (by omega)
  · have := h.len
    simp at this ⊢
    omega
theorem InvW.done {own : List S40} {out : List S65} {i : Nat} (h : InvW own out i) (hi : (bsOf own).length ≤ i + 1) : out = spansOf own := by
  obtain ⟨h1, h2⟩ := normT_inv _ (win_ne own)
  refine canon _ _ h.valid h1 (fun x => (h.mem x).trans ((h2 x).trans ?_).symm)
  constructor
  · rintro ⟨s, hs, a, b⟩
    obtain ⟨t, _, hg, rfl⟩ := (mem_winK _ _ _ _).1 hs
    have ht := won_lt hg
    have a' : (bsOf own).getD t 0 ≤ x := a
    have b' : x < (bsOf own).getD (t + 1) 0 := b
    refine ⟨t, by omega, ?_, a', b'⟩
    rw [← won_at own t _ ht (Int.le_refl _) (by omega)]
    exact hg
  · rintro ⟨t, ht, hg, a, b⟩
    by_cases htn : t + 1 < (bsOf own).length
    · refine ⟨_, (mem_winK _ _ _ _).2 ⟨t, by omega, ?_, rfl⟩, a, b⟩
      rw [won_at own t _ htn (Int.le_refl _) (strict_at (bsOf_strict own) htn (Nat.lt_succ_self t))]
      exact hg
    · exfalso
      obtain ⟨c, hc, c1, c2⟩ := decS_some hg
      obtain ⟨j, hj, ej⟩ := mem_at ((mem_bsOf own c.f3).2 ⟨c, hc, .inr rfl⟩)
      by_cases htl : t < (bsOf own).length
      · rcases Nat.lt_or_ge t j with h3 | h3
        · omega
        · rcases Nat.eq_or_lt_of_le h3 with rfl | h3
          · omega
          · have := strict_at (bsOf_strict own) htl h3; omega
      · have e0 : (bsOf own).getD t 0 = 0 := by simp [List.getD, List.getElem?_eq_none (Nat.le_of_not_lt htl)]
        have e1 : (bsOf own).getD (t + 1) 0 = 0 := by simp [List.getD, List.getElem?_eq_none (show (bsOf own).length ≤ t + 1 by omega)]
        omega
theorem spans_l1 (own : List S40) (ho : own.length ≤ 1000) (hb : (bsOf own).length ≤ 2000) (k : Nat) : ∀ (m i : Nat) (out : List S65), i + m + 1 = (bsOf own).length ∨ (m = 0 ∧ (bsOf own).length ≤ i + 1 ∧ i ≤ 2000) → InvW own out i →
    onairref06_Spans.l1 (m + 1 + (own.length + 1 + k)) own (bsOf own) out (i : Int) = some (spansOf own)
  | 0, i, out, h, hI => by
    have hi : i ≤ 2000 := by omega
    have hn : (bsOf own).length ≤ i + 1 := by omega
    have w : wrap64 ((i : Int) + 1) = ((i + 1 : Nat) : Int) := by unfold wrap64; omega
    rw [show 0 + 1 + (own.length + 1 + k) = (own.length + 1 + k) + 1 by omega]
    unfold onairref06_Spans.l1
    rw [w, if_neg (by omega), hI.done hn]
  | m + 1, i, out, h, hI => by
    have hn : i + 1 < (bsOf own).length := by omega
    have w : wrap64 ((i : Int) + 1) = ((i + 1 : Nat) : Int) := by unfold wrap64; omega
    have hgr : onairref06_granted.f (m + 1 + (own.length + 1 + k)) own ((bsOf own).getD i 0) = some (decS own ((bsOf own).getD i 0)) := by
      rw [show m + 1 + (own.length + 1 + k) = own.length + 1 + (m + 1 + k) by omega]
      exact granted_f own ho _ _
    have hlen := hI.len
    rw [show m + 1 + 1 + (own.length + 1 + k) = (m + 1 + (own.length + 1 + k)) + 1 by omega]
    unfold onairref06_Spans.l1
    rw [w, if_pos (by omega), if_pos (by omega), if_pos (by omega), rd_at, rd_at, hgr, Option.bind_some]
    cases hg : decS own ((bsOf own).getD i 0) with
    | false =>
      rw [if_neg (by decide)]
      exact spans_l1 own ho hb k m (i + 1) out (by omega) (hI.skip hn hg)
    | true =>
      rw [if_pos rfl]
      rcases List.eq_nil_or_concat out with rfl | ⟨ini, o, rfl⟩
      · rw [if_neg (by simp), if_pos (by omega), if_pos (by simp)]
        exact spans_l1 own ho hb k m (i + 1) _ (by omega) (hI.app hn hg (fun s hs => by cases hs))
      · rw [List.concat_eq_append] at hI hlen ⊢
        have hl1 : ((ini ++ [o]).length : Int) = (ini.length : Int) + 1 := by simp
        have w2 : wrap64 (((ini ++ [o]).length : Int) - 1) = (ini.length : Int) := by rw [hl1]; simp at hlen; unfold wrap64; omega
        have hr : rd_T65 (ini ++ [o]) (ini.length : Int) = o := by simp [rd_T65]
        rw [if_pos (by omega), w2, if_pos (by omega), if_pos (by omega), hr]
        by_cases he : o.f1 = (bsOf own).getD i 0
        · rw [if_pos he, if_pos (by omega)]
          have hs : (ini ++ [o]).set ((ini.length : Int)).toNat (⟨o.f0, (bsOf own).getD (i + 1) 0⟩ : S65) = ini ++ [⟨o.f0, (bsOf own).getD (i + 1) 0⟩] := by
            rw [Int.toNat_natCast, List.set_append_right _ _ (Nat.le_refl _)]
            simp
          rw [hs]
          exact spans_l1 own ho hb k m (i + 1) _ (by omega) (hI.ext hn hg he)
        · rw [if_neg he, if_pos (by omega), if_pos (by simp at hlen ⊢; omega)]
          refine spans_l1 own ho hb k m (i + 1) _ (by omega) (hI.app hn hg (fun s hs => ?_))
          have ht := hI.top s hs
          rcases List.mem_append.1 hs with hs | hs
          · have h1 := (List.pairwise_append.1 hI.valid.2).2.2 s hs o (by simp)
            have h2 := hI.valid.1 o (by simp)
            have h3 := hI.top o (by simp)
            omega
          · obtain rfl : s = o := by simpa using hs
            omega
theorem hit_sel (item region : Int) (y : S40) : (hit 1 item region y || hit 2 item region y) = sel item region y := by
  unfold hit sel
  cases (y.f0 == 1) <;> cases (y.f0 == 2) <;> simp
theorem bsOf_snoc (own : List S40) (y : S40) (r1 r2 : List Int) (h1 : PutR (bsOf own) y.f2 r1) (h2 : PutR r1 y.f3 r2) : r2 = bsOf (own ++ [y]) := by
  refine canonI _ _ h2.strict (bsOf_strict _) (fun x => ?_)
  rw [h2.mem, h1.mem, mem_bsOf, mem_bsOf]
  constructor
  · rintro ((⟨c, hc, h⟩ | h) | h)
    · exact ⟨c, by simp [hc], h⟩
    · exact ⟨y, by simp, .inl h⟩
    · exact ⟨y, by simp, .inr h⟩
  · rintro ⟨c, hc, h⟩
    rcases List.mem_append.1 hc with hc | hc
    · exact .inl (.inl ⟨c, hc, h⟩)
    · obtain rfl : c = y := by simpa using hc
      rcases h with h | h
      · exact .inl (.inr h)
      · exact .inr h
theorem bsOf_len (own : List S40) : (bsOf own).length ≤ own.length * 2 := by
  have h3 := Lib.compact_length_le ((boundsOf own).mergeSort fun x y => decide (x ≤ y))
  rw [List.length_mergeSort, bounds_len] at h3
  exact h3
theorem InvW.start (own : List S40) : InvW own [] 0 :=
  ⟨⟨fun s h => (by cases h), List.Pairwise.nil⟩, fun s h => (by cases h), fun x => ⟨fun h => absurd h (inS_nil x), fun ⟨t, h, _⟩ => absurd h (Nat.not_lt_zero t)⟩, Nat.le_refl _⟩
theorem rspans_l0 (S : List S40) (hS : S.length ≤ 1000) (item region : Int) (k : Nat) : ∀ (m i : Nat), i + m = S.length →
    onairref06_Spans.l0 (2 * m + 1 + (4000 + k)) S item region ((S.take i).filter (sel item region)) (bsOf ((S.take i).filter (sel item region))) (i : Int) = some (spansT S item region)
  | 0, i, h => by
    obtain rfl : i = S.length := by omega
    rw [List.take_length, show 2 * 0 + 1 + (4000 + k) = (4000 + k) + 1 by omega]
    unfold onairref06_Spans.l0
    rw [if_neg (by omega)]
    have hf : (S.filter (sel item region)).length ≤ S.length := List.length_filter_le _ _
    have hb := bsOf_len (S.filter (sel item region))
    unfold spansT
    generalize S.filter (sel item region) = own at hf hb ⊢
    by_cases h0 : (bsOf own).length ≤ 1
    · have := spans_l1 own (by omega) (by omega) (4000 + k - (1 + (own.length + 1))) 0 0 [] (.inr ⟨rfl, by omega, by omega⟩) (InvW.start own)
      rw [show 0 + 1 + (own.length + 1 + (4000 + k - (1 + (own.length + 1)))) = 4000 + k by omega] at this
      exact this
    · have := spans_l1 own (by omega) (by omega) (4000 + k - ((bsOf own).length + (own.length + 1))) ((bsOf own).length - 1) 0 [] (.inl (by omega)) (InvW.start own)
      rw [show (bsOf own).length - 1 + 1 + (own.length + 1 + (4000 + k - ((bsOf own).length + (own.length + 1)))) = 4000 + k by omega] at this
      exact this
  | m + 1, i, h => by
    have ih := rspans_l0 S hS item region k m (i + 1) (by omega)
    have w : wrap64 ((i : Int) + 1) = ((i + 1 : Nat) : Int) := by unfold wrap64; omega
    have ht : (S.take (i + 1)).filter (sel item region) = if sel item region (rd_T40 S (i : Int)) then (S.take i).filter (sel item region) ++ [rd_T40 S (i : Int)] else (S.take i).filter (sel item region) := by
      rw [List.take_add_one, List.filter_append]
      have : S[i]?.toList = [rd_T40 S (i : Int)] := by simp [rd_T40, show i < S.length by omega]
      rw [this, List.filter_cons]
      split <;> simp
    have hf : ((S.take i).filter (sel item region)).length ≤ 1000 := by
      have h1 := List.length_filter_le (sel item region) (S.take i)
      rw [List.length_take] at h1
      omega
    rw [ht] at ih
    generalize (S.take i).filter (sel item region) = own at ih hf ⊢
    have hb := bsOf_len own
    rw [show 2 * (m + 1) + 1 + (4000 + k) = ((2 * m + 1 + (4000 + k)) + 1) + 1 by omega]
    unfold onairref06_Spans.l0
    rw [if_pos (by omega), if_pos (by omega)]
    generalize hy : rd_T40 S (i : Int) = y at ih ⊢
    rw [show (2 * m + 1 + (4000 + k)) + 1 = 9 + (2 * m + 3993 + k) by omega, counts_f _ y 1 item region (by omega), counts_f _ y 2 item region (by omega), Option.bind_some, Option.bind_some, show 9 + (2 * m + 3993 + k) = (2 * m + 1 + (4000 + k)) + 1 by omega]
    have hsel := hit_sel item region y
    have hj : ∀ b, onairref06_Spans.j1 ((2 * m + 1 + (4000 + k)) + 1) S item region own (bsOf own) (i : Int) b = if b = true then onairref06_Spans.l0 (2 * m + 1 + (4000 + k)) S item region (own ++ [y]) (bsOf (own ++ [y])) ((i + 1 : Nat) : Int) else onairref06_Spans.l0 (2 * m + 1 + (4000 + k)) S item region own (bsOf own) ((i + 1 : Nat) : Int) := fun b => by
      unfold onairref06_Spans.j1
      rw [w]
      split
      · rw [if_pos (by omega), if_pos (by omega), if_pos (by omega), hy]
        obtain ⟨r1, e1, p1⟩ := put_f (bsOf own) y.f2 (bsOf_strict own) (by omega) (2 * m + 1 + (4000 + k) - ((bsOf own).length + 1))
        rw [show (bsOf own).length + 1 + (2 * m + 1 + (4000 + k) - ((bsOf own).length + 1)) = 2 * m + 1 + (4000 + k) by omega] at e1
        have hr1 : r1.length ≤ (bsOf own).length + 1 := by
          have : r1 = bsOf (own ++ [⟨y.f0, y.f1, y.f2, y.f2, y.f4, y.f5, y.f6, y.f7⟩]) ∨ True := .inr trivial
          have hsub : ∀ z ∈ r1, z ∈ y.f2 :: bsOf own := fun z hz => by
            rcases (p1.mem z).1 hz with h | h
            · exact List.mem_cons_of_mem _ h
            · exact List.mem_cons.2 (.inl h)
          have hnd : r1.Nodup := p1.strict.imp (fun h => by omega)
          have := hnd.length_le_of_subset (l₂ := y.f2 :: bsOf own) hsub
          simpa using this
        obtain ⟨r2, e2, p2⟩ := put_f r1 y.f3 p1.strict (by omega) (2 * m + 1 + (4000 + k) - (r1.length + 1))
        rw [show r1.length + 1 + (2 * m + 1 + (4000 + k) - (r1.length + 1)) = 2 * m + 1 + (4000 + k) by omega] at e2
        rw [e1, Option.bind_some, e2, Option.bind_some, bsOf_snoc own y r1 r2 p1 p2]
      · rfl
    rw [hj, hj]
    cases h1 : hit 1 item region y with
    | true =>
      rw [h1, Bool.true_or] at hsel
      rw [← hsel, if_pos rfl] at ih
      rw [if_pos rfl, if_pos rfl]
      exact ih
    | false =>
      rw [h1, Bool.false_or] at hsel
      rw [if_neg (by decide), hsel]
      split
      · rename_i hs
        rw [if_pos hs] at ih
        exact ih
      · rename_i hs
        rw [if_neg hs] at ih
        exact ih
theorem rspans_f (S : List S40) (hS : S.length ≤ 1000) (item region : Int) : ∃ K, onairref06_Spans.f K S item region = some (spansT S item region) := by
  have h := rspans_l0 S hS item region 0 S.length 0 (by omega)
  have e : bsOf [] = [] := List.eq_nil_of_length_eq_zero (by have := bsOf_len []; simpa using this)
  rw [List.take_zero, List.filter_nil, e] at h
  exact ⟨_, h⟩
/-- The law's value. -/
theorem lookups_true (l : List S40) (a1 a2 a3 a4 a5 : Int) : ∃ k, onairlaw06_RightsLookupsMatchReference.f k l a1 a2 a3 a4 a5 = some true := by
  have hS : (l.take 100).length ≤ 1000 := by rw [List.length_take]; omega
  have hcut := cut_f l 100 (by decide) (by decide)
  have hcut2 : onairlaw06_cut.f l 100 = some (l.take 100) := hcut
  clear hcut
  obtain ⟨S, hSS⟩ : ∃ S, l.take 100 = S := ⟨_, rfl⟩
  rw [hSS] at hS hcut2
  obtain ⟨K1, h1⟩ := rspans_f S hS a1 a2
  have hsp : rights_Spans.f S a1 a2 = some (spansT S a1 a2) := by unfold rights_Spans.f; rw [if_pos hS]
  have hl : (spansT S a1 a2).length ≤ 2000 := by
    have h := spansOf_len (S.filter (sel a1 a2))
    have hf : (S.filter (sel a1 a2)).length ≤ S.length := List.length_filter_le _ _
    unfold spansT
    omega
  have w : wrap64 ((S.length : Int) - 1) = (S.length : Int) - 1 := by unfold wrap64; omega
  have hr : ∀ k, onairref06_Runs.f (9 + k + S.length + 1) S a1 a2 = some (lastOf S 3 a1 a2 (-1)) := fun k => by
    have h := runs_l0 S hS a1 a2 k S.length (Nat.le_refl _)
    rw [List.take_length] at h
    unfold onairref06_Runs.f
    rw [w]
    exact h
  have hc : ∀ k, onairref06_Catchup.f (9 + k + S.length + 1) S a1 a2 = some (lastOf S 4 a1 a2 0) := fun k => by
    have h := catchup_l0 S hS a1 a2 k S.length (Nat.le_refl _)
    rw [List.take_length] at h
    unfold onairref06_Catchup.f
    rw [w]
    exact h
  have hg1 : ∀ k, rights_Gap.f (S.length + 3 + k) S a3 a4 = some (S.foldl (stepG a3 a4) 0) := fun k => by
    unfold rights_Gap.f
    rw [if_pos (by omega)]
  have hg2 : ∀ k, onairref06_Gap.f (S.length + 3 + k) S a3 a4 = some (S.foldl (stepG a3 a4) 0) := fun k => by
    unfold onairref06_Gap.f
    rw [if_pos (by omega)]
  have hw1 : ∀ k, rights_Watersheds.f (S.length + 3 + k) S a5 = some (S.foldl (stepT a5) []) := fun k => wat1 S hS a5 k S.length 0 [] (by omega) (Nat.le_refl _)
  have hw2 : ∀ k, onairref06_Watersheds.f (S.length + 3 + k) S a5 = some (S.foldl (stepT a5) []) := fun k => wat2 S hS a5 k S.length 0 [] (by omega) (Nat.le_refl _)
  have hwl := stepT_len a5 S []
  simp only [List.length_nil, Nat.zero_add] at hwl
  obtain ⟨K, hK⟩ : ∃ K, K = K1 + (5000 + S.length) := ⟨_, rfl⟩
  refine ⟨K, ?_⟩
  have e1 : onairref06_Spans.f K S a1 a2 = some (spansT S a1 a2) := by rw [hK]; exact leO_add (f := fun k => onairref06_Spans.f k S a1 a2) (fun k => onairref06_Spans.mono S a1 a2 k) h1 _
  have e2 : onairref06_SameSpans.f K (spansT S a1 a2) (spansT S a1 a2) = some true := by
    rw [show K = (spansT S a1 a2).length + 1 + (K - ((spansT S a1 a2).length + 1)) by omega]
    exact same_f _ (by omega) _
  have e3 : onairref06_Runs.f K S a1 a2 = some (lastOf S 3 a1 a2 (-1)) := by rw [show K = 9 + (K - (9 + S.length + 1)) + S.length + 1 by omega]; exact hr _
  have e4 : onairref06_Catchup.f K S a1 a2 = some (lastOf S 4 a1 a2 0) := by rw [show K = 9 + (K - (9 + S.length + 1)) + S.length + 1 by omega]; exact hc _
  have e5 : rights_Gap.f K S a3 a4 = some (S.foldl (stepG a3 a4) 0) := by rw [show K = S.length + 3 + (K - (S.length + 3)) by omega]; exact hg1 _
  have e6 : onairref06_Gap.f K S a3 a4 = some (S.foldl (stepG a3 a4) 0) := by rw [show K = S.length + 3 + (K - (S.length + 3)) by omega]; exact hg2 _
  have e7 : rights_Watersheds.f K S a5 = some (S.foldl (stepT a5) []) := by rw [show K = S.length + 3 + (K - (S.length + 3)) by omega]; exact hw1 _
  have e8 : onairref06_Watersheds.f K S a5 = some (S.foldl (stepT a5) []) := by rw [show K = S.length + 3 + (K - (S.length + 3)) by omega]; exact hw2 _
  have e9 : onairref06_SameSpans.f K (S.foldl (stepT a5) []) (S.foldl (stepT a5) []) = some true := by
    rw [show K = (S.foldl (stepT a5) []).length + 1 + (K - ((S.foldl (stepT a5) []).length + 1)) by omega]
    exact same_f _ (by omega) _
  have r1 : rights_Runs.f S a1 a2 = some (lastOf S 3 a1 a2 (-1)) := rfl
  have r2 : rights_Catchup.f S a1 a2 = some (lastOf S 4 a1 a2 0) := rfl
  unfold onairlaw06_RightsLookupsMatchReference.f
  rw [show onairlaw06_sane.f = some true from rfl, Option.bind_some, hcut2, Option.bind_some, if_pos rfl, hsp, Option.bind_some, e1, Option.bind_some, e2, Option.bind_some, if_pos rfl, r1, Option.bind_some, e3, Option.bind_some, if_pos rfl, e5, Option.bind_some, e6, Option.bind_some, if_pos rfl, r2, Option.bind_some, e4, Option.bind_some, if_pos rfl, e7, Option.bind_some, e8, Option.bind_some, e9]
  rfl
end Go.Proofs.YtpefhdjkpdjdpaaGreatDoor.R
namespace Go.Proofs.YtpefhdjkpdjdpaaGreatDoor.R
open Go Go.ChangeShapes Go.WideShapes Go.ChangeAt Go.Deep Go.RowKit Go.Proofs.YtpefhdjkpdjdpaaGreatDoorW.PrintWords Go.Proofs.YtpefhdjkpdjdpaaGreatDoorW.PrintLast Go.Proofs.YtpefhdjkpdjdpaaGreatDoorW.PrintMore
def args4 : Array Value := #[.slice none 0 0, .int .i64 0, .int .i64 0, .int .i64 0, .int .i64 0, .int .i64 0]
theorem laid_met4 (os : Os) : laidMetH Tryz.prog laidL ((laidWorld os).forCall (fun _ _ => 0) ⟨#[], args4, []⟩).memory := by
  rw [MakeChecks.laidMetH_plain _ _ _ (by kernel_rfl)]
  exact laidMet_of_run' 8 (by kernel_rfl) (by kernel_rfl)
theorem reads4 (os : Os) {H : Type} (enc : TypeId × Value → H) : ∃ places, DataW.whole enc Tryz.prog ((laidWorld os).forCall (fun _ _ => 0) ⟨#[], args4, []⟩).memory Tryz.f4.params.toList Rows.rightsLookupsMatchReferenceSpec.vars false args4.toList 8 = some ([.nil, .lit (.int .i64 0), .lit (.int .i64 0), .lit (.int .i64 0), .lit (.int .i64 0), .lit (.int .i64 0)], [], places) :=
  ⟨[], by kernel_rfl⟩
set_option maxRecDepth 100000 in
theorem lifted4 (os : Os) (started : os.Started) (H : Type) (enc : TypeId × Value → H) (F : Stop.Interp) :
    ReturnsInHanded {} Tryz.checked os 4 .any ((OpenSpec.ofChange Rows.rightsLookupsMatchReferenceSpec).preRow enc Tryz.prog Tryz.f4 Rows.rightsLookupsMatchReferenceRow.domain false Rows.rightsLookupsMatchReferenceRow.laid) (((OpenSpec.ofChange Rows.rightsLookupsMatchReferenceSpec).at F).post enc Tryz.prog Tryz.f4 false true false false) := by
  obtain ⟨places, hx⟩ := reads4 os enc
  refine returnsInHanded_of_row (C := Tryz.checked) (s := OpenSpec.ofChange Rows.rightsLookupsMatchReferenceSpec) own_ started (by kernel_rfl) Tryz.func4
    (witness_row_atRef (enc := enc) (C := Tryz.checked) false (laidWorld os) args4 rfl (by kernel_rfl) (by kernel_rfl) (by kernel_rfl)
      (OpenSpec.preRow_of_cond 8 hx (by kernel_rfl) (fun k hk => by cases hk) (by kernel_rfl) (laid_met4 os))) ?_
  intro W base args ds gs before hval0 hW _ _ _ hL hsh _
  have hval : ∀ (j : Nat) t v, Tryz.f4.params[j]? = some t → args[j]? = some v → Value.okWide Tryz.prog W .any base t v := hval0
  have hW' := hW
  obtain ⟨p, q, hA0, hV, rfl, _, _⟩ := hW
  have hA : DataW.TrodAll enc Tryz.prog W 0 (fun _ => true) true Tryz.f4.params.toList args.toList ds p := hA0
  rw [Tryz.params4] at hA hval
  obtain ⟨v0, vs0, d0, ds0, p0, q0, hargs, rfl, rfl, h0, r0⟩ := trodAll_cons hA
  obtain ⟨v1, vs1, d1, ds1, p1, q1, rfl, rfl, rfl, h1, r1⟩ := trodAll_cons r0
  obtain ⟨v2, vs2, d2, ds2, p2, q2, rfl, rfl, rfl, h2, r2⟩ := trodAll_cons r1
  obtain ⟨v3, vs3, d3, ds3, p3, q3, rfl, rfl, rfl, h3, r3⟩ := trodAll_cons r2
  obtain ⟨v4, vs4, d4, ds4, p4, q4, rfl, rfl, rfl, h4, r4⟩ := trodAll_cons r3
  obtain ⟨v5, vs5, d5, ds5, p5, q5, rfl, rfl, rfl, h5, r5⟩ := trodAll_cons r4
  obtain ⟨rfl, rfl, rfl⟩ := trodAll_nil r5
  obtain rfl : args = #[v0, v1, v2, v3, v4, v5] := by cases args; simp_all
  obtain ⟨rfl, rfl⟩ := trodVars_none hV
  obtain ⟨a1, rfl, rfl, rfl, w1⟩ := open_int Tryz.underlying3 (hval 1 3 v1 rfl rfl) h1
  obtain ⟨a2, rfl, rfl, rfl, w2⟩ := open_int Tryz.underlying3 (hval 2 3 v2 rfl rfl) h2
  obtain ⟨a3, rfl, rfl, rfl, w3⟩ := open_int Tryz.underlying3 (hval 3 3 v3 rfl rfl) h3
  obtain ⟨a4, rfl, rfl, rfl, w4⟩ := open_int Tryz.underlying3 (hval 4 3 v4 rfl rfl) h4
  obtain ⟨a5, rfl, rfl, rfl, w5⟩ := open_int Tryz.underlying3 (hval 5 3 v5 rfl rfl) h5
  obtain ⟨A0, c0, l0, rfl, hlc, hC⟩ := C40_of_arg (hval 0 22 v0 rfl rfl) h0
  clear hA0 hval0
  simp only [List.append_nil] at hW'
  have hlt : ∀ x ∈ p0, x.block < W.heap.size := fun x hx => by simpa using hW'.lt x hx
  have hT := tabW_of hL hsh
  obtain ⟨k, hk⟩ := lookups_true l0 a1 a2 a3 a4 a5
  refine (onairlaw06_RightsLookupsMatchReference.calls k A0 c0 l0 a1 a2 a3 a4 a5 true W hC hlc hk hT).mono ?_
  rintro e W' ⟨rfl, hb⟩
  refine ⟨_, rfl, _, _, _, [], p0, [], hW', trodAll_mk1 (shut_bool Tryz.underlying4 _), ?_, rfl, hb.frame _, fun h => by cases h⟩
  have ht := Below.trod laidOut_ (by kernel_rfl) (of_decide_eq_true (by kernel_rfl)) h0 hb hlt
  have := trodAll_cons_mk ht (trodAll_cons_mk (shut_int Tryz.underlying3 w1) (trodAll_cons_mk (shut_int Tryz.underlying3 w2) (trodAll_cons_mk (shut_int Tryz.underlying3 w3) (trodAll_cons_mk (shut_int Tryz.underlying3 w4) (trodAll_cons_mk (shut_int Tryz.underlying3 w5) trodAll_mk0)))))
  simp only [List.append_nil] at this
  exact this
end Go.Proofs.YtpefhdjkpdjdpaaGreatDoor.R
