/- Parts of the proof, merged out of this seat's texts by a program of this claim. -/
import Derived.Lib.ItoaLen
import Derived.Lib.Hide
import Derived.Lib.SplitLaws
import Derived.Lib.IndexBytes
import Derived.Tactics2
import Derived.Defers
import Derived.Recover
import Derived.Laws.Pointers
import Derived.RangeFuncBox
import Derived.OwnWalkIn
import Derived.TacticsInMore
import Derived.WalkMore
import Derived.Test.YtpefhdjkpdjdpaaGreatDoorLn3
namespace Go.Proofs.YtpefhdjkpdjdpaaGreatDoor.R
open Go.RowKit Go.Proofs.YtpefhdjkpdjdpaaGreatDoorW.PrintWords Go.Proofs.YtpefhdjkpdjdpaaGreatDoorW.PrintLast Go.Proofs.YtpefhdjkpdjdpaaGreatDoorW.PrintMore
attribute [local go_sem] max2_int min2_int max_two min_two max_three min_three max_four min_four   -- for this text's walks alone
set_option linter.unusedVariables false
set_option linter.unusedSimpArgs false
def rights_Watersheds.l0 : Nat → Int → List (S65) → List (S40) → Int → Int → Option ((List (S65)))
  | 0, _, _, _, _, _ => none
  | k + 1, x1, x5, x8, x9, x10 => if x10 < x9 then (if 0 ≤ x10 then (if x10 < (x8.length : Int) then (if ((rd_T40 x8 x10).f0) = 6 then (if ((rd_T40 x8 x10).f6) ≤ x1 then ((rights_Valid.f k ((rd_T40 x8 x10).f0) ((rd_T40 x8 x10).f1) ((rd_T40 x8 x10).f2) ((rd_T40 x8 x10).f3) ((rd_T40 x8 x10).f4) ((rd_T40 x8 x10).f5) ((rd_T40 x8 x10).f6) ((rd_T40 x8 x10).f7)).bind fun t107 => (if t107 = true then (if x5.length < 8796093022208 then (rights_Watersheds.l0 k x1 (x5 ++ [(⟨(rd_T40 x8 x10).f2, (rd_T40 x8 x10).f3⟩ : S65)]) x8 x9 (wrap64 (x10 + 1))) else (none)) else (rights_Watersheds.l0 k x1 x5 x8 x9 (wrap64 (x10 + 1))))) else (rights_Watersheds.l0 k x1 x5 x8 x9 (wrap64 (x10 + 1)))) else (rights_Watersheds.l0 k x1 x5 x8 x9 (wrap64 (x10 + 1)))) else (none)) else (none)) else (some x5)
def rights_Watersheds.f (k : Nat) (l0 : List (S40)) (a1 : Int) : Option ((List (S65))) := rights_Watersheds.l0 k a1 ([] : List (S65)) l0 (l0.length : Int) 0
set_option maxHeartbeats 8000000 in
set_option maxRecDepth 100000 in
theorem rights_Watersheds.calls (k : Nat) (A0 : Option Addr) (c0 : Nat) (l0 : List (S40)) (a1 : Int) (r : List (S65)) (w : World) (hr0 : Kd.C k40 w A0 l0.length l0) (hc0 : l0.length ≤ c0) (h : rights_Watersheds.f k l0 a1 = some r) :
    Calls Tryz.prog 22 #[.slice A0 l0.length c0, .int .i64 a1] w fun e w' => ∃ v0_ : Value, e = .returned (v0_) ∧ Kd.R k65 65 w' w.heap.size (fun _ => True) v0_ r ∧ Below w.heap.size w w' := by
  have hu40 := Tryz.underlying40
  have hu65 := Tryz.underlying65
  have HR0 := Aside0.mk hr0
  have HC0 := Aside0.mk hc0
  clear hr0 hc0
  have HB := Aside0.mk (Below.refl w.heap.size w)
  have H : (rights_Watersheds.l0 k a1 ([] : List (S65)) l0 (l0.length : Int) 0) = some r := h
  clear h
  have H' := Aside0.mk H
  clear H
  go_enter Tryz.func22, Tryz.ntmps22
  go_wp2
  go_loopg [5, 10] k (fun kq v5 v10 w' => ∃ (x5_1 : List (S65)) (x10_1 : Int), v10 = .int .i64 x10_1 ∧ Aside0 (rights_Watersheds.l0 kq a1 x5_1 l0 (l0.length : Int) x10_1 = some r) ∧ Aside0 (kq ≤ k) ∧ Aside0 (Kd.R k65 65 w' w.heap.size (fun _ => True) v5 x5_1) ∧ Aside0 (Below w.heap.size w w'))
  case atStart => exact ⟨(([] : List (S65))), (0), (by first | rfl | (simp; done) | (simp [*]; done)), H', ⟨Nat.le_refl _⟩, ⟨by first | exact Kd.R_nil _ _ _ _ _ | exact Kd.N_nil _ _ _ _ _ | exact Kd.V_nil _ _ _ _ _ | exact Kd.Q_nil _ _ _ _ _ | exact Kd.S_nil _ _ _ _ _⟩, ⟨by repeat (first | (with_reducible first | exact HB.out | apply below_alloc | apply pw_below_drewN | apply below_drew1) | exact HB.out)⟩⟩
  case round =>
    clear H'
    try clear c2
    try clear p2
    obtain ⟨x5_1, x10_1, rfl, HA, HK1, HO_5, HB⟩ := hrel
    cases gk with
    | zero => exact absurd HA.out (by simp [rights_Watersheds.l0])
    | succ k1 =>
      have H := HA.out
      clear HA
      simp only [rights_Watersheds.l0] at H
      by_cases c3 : x10_1 < (l0.length : Int)
      · rw [if_pos c3] at H
        have c3b0 : decide (x10_1 < (l0.length : Int)) = true := decide_eq_true c3
        clear c3
        by_cases c4 : 0 ≤ x10_1
        · rw [if_pos c4] at H
          have c4b0 : decide (0 ≤ x10_1) = true := decide_eq_true c4
          clear c4
          by_cases c5 : x10_1 < (l0.length : Int)
          · rw [if_pos c5] at H
            have c5b0 : decide (x10_1 < (l0.length : Int)) = true := decide_eq_true c5
            clear c5
            by_cases c6 : ((rd_T40 l0 x10_1).f0) = 6
            · rw [if_pos c6] at H
              have c6b0 : (((rd_T40 l0 x10_1).f0) == 6) = true := beq_iff_eq.mpr c6
              have c6b1 : (((rd_T40 l0 x10_1).f0) != 6) = false := bne_eq_false_iff_eq.mpr c6
              clear c6
              by_cases c7 : ((rd_T40 l0 x10_1).f6) ≤ a1
              · rw [if_pos c7] at H
                have c7b0 : decide (((rd_T40 l0 x10_1).f6) ≤ a1) = true := decide_eq_true c7
                clear c7
                replace H := Option.bind_eq_some_iff.mp H
                obtain ⟨t107, A80, H⟩ := H
                replace H : (if t107 = true then (if x5_1.length < 8796093022208 then (rights_Watersheds.l0 k1 a1 (x5_1 ++ [(⟨(rd_T40 l0 x10_1).f2, (rd_T40 l0 x10_1).f3⟩ : S65)]) l0 (l0.length : Int) (wrap64 (x10_1 + 1))) else (none)) else (rights_Watersheds.l0 k1 a1 x5_1 l0 (l0.length : Int) (wrap64 (x10_1 + 1)))) = some r := H
                have A8 := Aside0.mk A80
                clear A80
                by_cases c9 : t107 = true
                · subst c9
                  have H1 : (if x5_1.length < 8796093022208 then (rights_Watersheds.l0 k1 a1 (x5_1 ++ [(⟨(rd_T40 l0 x10_1).f2, (rd_T40 l0 x10_1).f3⟩ : S65)]) l0 (l0.length : Int) (wrap64 (x10_1 + 1))) else (none)) = some r := by rw [if_pos rfl] at H; exact H
                  clear H
                  have H := H1
                  clear H1
                  by_cases c10 : x5_1.length < 8796093022208
                  · rw [if_pos c10] at H
                    have LMc10 := Aside0.mk c10
                    clear c10
                    obtain ⟨y108, hy108⟩ : ∃ y_ : List (S65), y_ = (x5_1 ++ [(⟨(rd_T40 l0 x10_1).f2, (rd_T40 l0 x10_1).f3⟩ : S65)]) := ⟨_, rfl⟩
                    replace H : (rights_Watersheds.l0 k1 a1 y108 l0 (l0.length : Int) (wrap64 (x10_1 + 1))) = some r := by first | (rw [hy108]; with_reducible exact H) | (have H2_ := (Option.bind_some _ _).symm.trans H; rw [hy108]; with_reducible exact H2_) | (have H2_ := (Option.bind_some _ _).symm.trans H; with_reducible exact H2_) | with_reducible exact H | (rw [hy108]; exact H) | exact H
                    have Ny108 := Aside0.mk hy108
                    clear hy108
                    have H' := Aside0.mk H
                    clear H
                    have p105 : 0 ≤ (x10_1 : Int) := of_decide_eq_true (by first | (with_reducible assumption) | assumption)
                    have q105 : x10_1 < (l0.length : Int) := of_decide_eq_true (by first | (with_reducible assumption) | assumption)
                    obtain ⟨ad105, e105, hx105_0, hx105_1, hx105_2, hx105_3, hx105_4, hx105_5, hx105_6, hx105_7⟩ := at_T40 HR0.out x10_1 p105 q105
                    cases e105
                    replace hx105_0 := (HB.out.cell (World.block_lt_of_cell? w _ hx105_0)).trans hx105_0
                    replace hx105_1 := (HB.out.cell (World.block_lt_of_cell? w _ hx105_1)).trans hx105_1
                    replace hx105_2 := (HB.out.cell (World.block_lt_of_cell? w _ hx105_2)).trans hx105_2
                    replace hx105_3 := (HB.out.cell (World.block_lt_of_cell? w _ hx105_3)).trans hx105_3
                    replace hx105_4 := (HB.out.cell (World.block_lt_of_cell? w _ hx105_4)).trans hx105_4
                    replace hx105_5 := (HB.out.cell (World.block_lt_of_cell? w _ hx105_5)).trans hx105_5
                    replace hx105_6 := (HB.out.cell (World.block_lt_of_cell? w _ hx105_6)).trans hx105_6
                    replace hx105_7 := (HB.out.cell (World.block_lt_of_cell? w _ hx105_7)).trans hx105_7
                    replace p105 := eq_true p105
                    replace q105 := eq_true q105
                    go_wp2_with (first | ((with_reducible refine gate_dst (N := 7) rfl ?_); refine box_event ?hg (N := 7) ?hd (cs := #[.int .i64 0, .int .i64 0, .int .i64 0, .int .i64 0, .int .i64 0, .int .i64 0, .int .i64 0, .int .i64 0]) (t := 40) ?hr ?_; (case hd => rfl); (case hg => rfl); (case hr => first | (go_simp; done) | (go_simp; rfl)); intro gb106 hg w11 hbox hb; have n0_ := Aside0.mk (Kd.R_below (by (with_reducible repeat (first | apply Kd.R_alloc | apply Kd.R_drewN | apply Kd.R_drew)); exact HO_5.out) hb); have n1_ := Aside0.mk (below_step (by repeat (first | (with_reducible first | exact HB.out | apply below_alloc | apply pw_below_drewN | apply below_drew1) | exact HB.out)) hb); have n2_ := Aside0.mk (hbox); have n3_ := Aside0.mk ((by rw [hg]; exact (below_size (by repeat (first | (with_reducible first | exact HB.out | apply below_alloc | apply pw_below_drewN | apply below_drew1) | exact HB.out))) : w.heap.size ≤ gb106)); have n4_ := Aside0.mk ((by rw [hg]; exact (below_size (by repeat (first | (with_reducible first | exact HB.out | apply below_alloc | apply pw_below_drewN | apply below_drew1) | exact HB.out))) : w.heap.size ≤ gb106)); clear HO_5; clear HB; have HO_5 := n0_; have HB := n1_; have BK106 := n2_; have GW106 := n3_; have GE106 := n4_; clear n0_ n1_ n2_ n3_ n4_; clear hb hbox hg; have hcz12_0 : w11.cell? ⟨gb106, 0, none⟩ = some (.int .i64 0) := (blk_cell BK106.out 0).trans rfl; have hcz12_1 : w11.cell? ⟨gb106, 1, none⟩ = some (.int .i64 0) := (blk_cell BK106.out 1).trans rfl; have hcz12_2 : w11.cell? ⟨gb106, 2, none⟩ = some (.int .i64 0) := (blk_cell BK106.out 2).trans rfl; have hcz12_3 : w11.cell? ⟨gb106, 3, none⟩ = some (.int .i64 0) := (blk_cell BK106.out 3).trans rfl; have hcz12_4 : w11.cell? ⟨gb106, 4, none⟩ = some (.int .i64 0) := (blk_cell BK106.out 4).trans rfl; have hcz12_5 : w11.cell? ⟨gb106, 5, none⟩ = some (.int .i64 0) := (blk_cell BK106.out 5).trans rfl; have hcz12_6 : w11.cell? ⟨gb106, 6, none⟩ = some (.int .i64 0) := (blk_cell BK106.out 6).trans rfl; have hcz12_7 : w11.cell? ⟨gb106, 7, none⟩ = some (.int .i64 0) := (blk_cell BK106.out 7).trans rfl; have hfz12_0 := blk_frozen BK106.out 0; have hfz12_1 := blk_frozen BK106.out 1; have hfz12_2 := blk_frozen BK106.out 2; have hfz12_3 := blk_frozen BK106.out 3; have hfz12_4 := blk_frozen BK106.out 4; have hfz12_5 := blk_frozen BK106.out 5; have hfz12_6 := blk_frozen BK106.out 6; have hfz12_7 := blk_frozen BK106.out 7) | (go_at_call 24; (with_reducible refine (rights_Valid.calls k1 ((rd_T40 l0 x10_1).f0) ((rd_T40 l0 x10_1).f1) ((rd_T40 l0 x10_1).f2) ((rd_T40 l0 x10_1).f3) ((rd_T40 l0 x10_1).f4) ((rd_T40 l0 x10_1).f5) ((rd_T40 l0 x10_1).f6) ((rd_T40 l0 x10_1).f7) true _ A8.out).mono ?_); rintro e w13 ⟨rfl, hb⟩; have n0_ := Aside0.mk (Kd.R_below (by (with_reducible repeat (first | apply Kd.R_alloc | apply Kd.R_drewN | apply Kd.R_drew)); exact (Kd.R_mono (Kd.R_far (p := ⟨gb106, 7, none⟩) (Kd.R_far (p := ⟨gb106, 6, none⟩) (Kd.R_far (p := ⟨gb106, 5, none⟩) (Kd.R_far (p := ⟨gb106, 4, none⟩) (Kd.R_far (p := ⟨gb106, 3, none⟩) (Kd.R_far (p := ⟨gb106, 2, none⟩) (Kd.R_far (p := ⟨gb106, 1, none⟩) (Kd.R_far (p := ⟨gb106, 0, none⟩) (Kd.R_types HO_5.out BK106.out (by decide)) (fun _ hk => hk.2) (.int .i64 ((rd_T40 l0 x10_1).f0))) (fun _ hk => hk.2) (.int .i64 ((rd_T40 l0 x10_1).f1))) (fun _ hk => hk.2) (.int .i64 ((rd_T40 l0 x10_1).f2))) (fun _ hk => hk.2) (.int .i64 ((rd_T40 l0 x10_1).f3))) (fun _ hk => hk.2) (.int .i64 ((rd_T40 l0 x10_1).f4))) (fun _ hk => hk.2) (.int .i64 ((rd_T40 l0 x10_1).f5))) (fun _ hk => hk.2) (.int .i64 ((rd_T40 l0 x10_1).f6))) (fun _ hk => hk.2) (.int .i64 ((rd_T40 l0 x10_1).f7))) (fun _ h_ => h_.1))) hb); have n1_ := Aside0.mk (blk_below (g := gb106) (o := .cells #[.int .i64 ((rd_T40 l0 x10_1).f0), .int .i64 ((rd_T40 l0 x10_1).f1), .int .i64 ((rd_T40 l0 x10_1).f2), .int .i64 ((rd_T40 l0 x10_1).f3), .int .i64 ((rd_T40 l0 x10_1).f4), .int .i64 ((rd_T40 l0 x10_1).f5), .int .i64 ((rd_T40 l0 x10_1).f6), .int .i64 ((rd_T40 l0 x10_1).f7)] 40 (0, 0)) (by (with_reducible repeat (first | refine blk_drewN ?_ _ | refine blk_drew ?_ | refine blk_alloc ?_ _)); refine blk_put (cs := #[.int .i64 ((rd_T40 l0 x10_1).f0), .int .i64 ((rd_T40 l0 x10_1).f1), .int .i64 ((rd_T40 l0 x10_1).f2), .int .i64 ((rd_T40 l0 x10_1).f3), .int .i64 ((rd_T40 l0 x10_1).f4), .int .i64 ((rd_T40 l0 x10_1).f5), .int .i64 ((rd_T40 l0 x10_1).f6), .int .i64 0]) ?_ 7 _ rfl; (with_reducible repeat (first | refine blk_drewN ?_ _ | refine blk_drew ?_ | refine blk_alloc ?_ _)); refine blk_put (cs := #[.int .i64 ((rd_T40 l0 x10_1).f0), .int .i64 ((rd_T40 l0 x10_1).f1), .int .i64 ((rd_T40 l0 x10_1).f2), .int .i64 ((rd_T40 l0 x10_1).f3), .int .i64 ((rd_T40 l0 x10_1).f4), .int .i64 ((rd_T40 l0 x10_1).f5), .int .i64 0, .int .i64 0]) ?_ 6 _ rfl; (with_reducible repeat (first | refine blk_drewN ?_ _ | refine blk_drew ?_ | refine blk_alloc ?_ _)); refine blk_put (cs := #[.int .i64 ((rd_T40 l0 x10_1).f0), .int .i64 ((rd_T40 l0 x10_1).f1), .int .i64 ((rd_T40 l0 x10_1).f2), .int .i64 ((rd_T40 l0 x10_1).f3), .int .i64 ((rd_T40 l0 x10_1).f4), .int .i64 0, .int .i64 0, .int .i64 0]) ?_ 5 _ rfl; (with_reducible repeat (first | refine blk_drewN ?_ _ | refine blk_drew ?_ | refine blk_alloc ?_ _)); refine blk_put (cs := #[.int .i64 ((rd_T40 l0 x10_1).f0), .int .i64 ((rd_T40 l0 x10_1).f1), .int .i64 ((rd_T40 l0 x10_1).f2), .int .i64 ((rd_T40 l0 x10_1).f3), .int .i64 0, .int .i64 0, .int .i64 0, .int .i64 0]) ?_ 4 _ rfl; (with_reducible repeat (first | refine blk_drewN ?_ _ | refine blk_drew ?_ | refine blk_alloc ?_ _)); refine blk_put (cs := #[.int .i64 ((rd_T40 l0 x10_1).f0), .int .i64 ((rd_T40 l0 x10_1).f1), .int .i64 ((rd_T40 l0 x10_1).f2), .int .i64 0, .int .i64 0, .int .i64 0, .int .i64 0, .int .i64 0]) ?_ 3 _ rfl; (with_reducible repeat (first | refine blk_drewN ?_ _ | refine blk_drew ?_ | refine blk_alloc ?_ _)); refine blk_put (cs := #[.int .i64 ((rd_T40 l0 x10_1).f0), .int .i64 ((rd_T40 l0 x10_1).f1), .int .i64 0, .int .i64 0, .int .i64 0, .int .i64 0, .int .i64 0, .int .i64 0]) ?_ 2 _ rfl; (with_reducible repeat (first | refine blk_drewN ?_ _ | refine blk_drew ?_ | refine blk_alloc ?_ _)); refine blk_put (cs := #[.int .i64 ((rd_T40 l0 x10_1).f0), .int .i64 0, .int .i64 0, .int .i64 0, .int .i64 0, .int .i64 0, .int .i64 0, .int .i64 0]) ?_ 1 _ rfl; (with_reducible repeat (first | refine blk_drewN ?_ _ | refine blk_drew ?_ | refine blk_alloc ?_ _)); refine blk_put (cs := #[.int .i64 0, .int .i64 0, .int .i64 0, .int .i64 0, .int .i64 0, .int .i64 0, .int .i64 0, .int .i64 0]) ?_ 0 _ rfl; (with_reducible repeat (first | refine blk_drewN ?_ _ | refine blk_drew ?_ | refine blk_alloc ?_ _)); exact BK106.out) hb); have n2_ := Aside0.mk (below_step (by repeat (first | (with_reducible first | exact HB.out | apply below_alloc | apply pw_below_drewN | apply below_drew1 | refine below_set ?_ GE106.out) | exact HB.out)) hb); clear HO_5; clear BK106; clear HB; have HO_5 := n0_; have BK106 := n1_; have HB := n2_; clear n0_ n1_ n2_; (try clear hb); (try clear hb2); (try clear hk); (try clear hi); have hcz14_0 : w13.cell? ⟨gb106, 0, none⟩ = some (.int .i64 ((rd_T40 l0 x10_1).f0)) := (blk_cell BK106.out 0).trans rfl; have hcz14_1 : w13.cell? ⟨gb106, 1, none⟩ = some (.int .i64 ((rd_T40 l0 x10_1).f1)) := (blk_cell BK106.out 1).trans rfl; have hcz14_2 : w13.cell? ⟨gb106, 2, none⟩ = some (.int .i64 ((rd_T40 l0 x10_1).f2)) := (blk_cell BK106.out 2).trans rfl; have hcz14_3 : w13.cell? ⟨gb106, 3, none⟩ = some (.int .i64 ((rd_T40 l0 x10_1).f3)) := (blk_cell BK106.out 3).trans rfl; have hcz14_4 : w13.cell? ⟨gb106, 4, none⟩ = some (.int .i64 ((rd_T40 l0 x10_1).f4)) := (blk_cell BK106.out 4).trans rfl; have hcz14_5 : w13.cell? ⟨gb106, 5, none⟩ = some (.int .i64 ((rd_T40 l0 x10_1).f5)) := (blk_cell BK106.out 5).trans rfl; have hcz14_6 : w13.cell? ⟨gb106, 6, none⟩ = some (.int .i64 ((rd_T40 l0 x10_1).f6)) := (blk_cell BK106.out 6).trans rfl; have hcz14_7 : w13.cell? ⟨gb106, 7, none⟩ = some (.int .i64 ((rd_T40 l0 x10_1).f7)) := (blk_cell BK106.out 7).trans rfl; have hfz14_0 := blk_frozen BK106.out 0; have hfz14_1 := blk_frozen BK106.out 1; have hfz14_2 := blk_frozen BK106.out 2; have hfz14_3 := blk_frozen BK106.out 3; have hfz14_4 := blk_frozen BK106.out 4; have hfz14_5 := blk_frozen BK106.out 5; have hfz14_6 := blk_frozen BK106.out 6; have hfz14_7 := blk_frozen BK106.out 7) | ((with_reducible refine gate_builtin (b := .append) (xs := #[.tmp 27, .tmp 33]) rfl ?_); at_builtin; refine Kd.R_append k65 (w0 := w) w.heap.size rfl (.tmp 27) (.tmp 33) 34 65 (.agg #[(.int .i64 0), (.int .i64 0)]) 16 rfl Tryz.underlying34 info65 rfl (by decide) (by omega) u5 x5_1 (⟨(rd_T40 l0 x10_1).f2, (rd_T40 l0 x10_1).f3⟩ : S65) [.int .i64 ((rd_T40 l0 x10_1).f2), .int .i64 ((rd_T40 l0 x10_1).f3)] (fun _ => True) (fun _ => False) rfl rfl ?aP (fun _ hk => hk.elim) ?aF ?aO ?aB ?aS ?aL ?_; (case aP => exact k65_mkM _ _ _ (⟨(rd_T40 l0 x10_1).f2, (rd_T40 l0 x10_1).f3⟩ : S65)); (case aB => exact (by repeat (first | (with_reducible first | exact HB.out | apply below_alloc | apply pw_below_drewN | apply below_drew1 | refine below_set ?_ GE106.out) | exact HB.out))); (case aF => exact (fun _ _ => trivial)); (case aO => exact (by (with_reducible repeat (first | apply Kd.R_alloc | apply Kd.R_drewN | apply Kd.R_drew)); exact HO_5.out)); (case aS => exact (below_size (by repeat (first | (with_reducible first | exact HB.out | apply below_alloc | apply pw_below_drewN | apply below_drew1 | refine below_set ?_ GE106.out) | exact HB.out)))); (case aL => have := LMc10.out; omega); intro v109 w15 ho hb hg hat; rw [← Ny108.out] at ho; have n0_ := Aside0.mk (blk_grown (g := gb106) (o := .cells #[.int .i64 ((rd_T40 l0 x10_1).f0), .int .i64 ((rd_T40 l0 x10_1).f1), .int .i64 ((rd_T40 l0 x10_1).f2), .int .i64 ((rd_T40 l0 x10_1).f3), .int .i64 ((rd_T40 l0 x10_1).f4), .int .i64 ((rd_T40 l0 x10_1).f5), .int .i64 ((rd_T40 l0 x10_1).f6), .int .i64 ((rd_T40 l0 x10_1).f7)] 40 (0, 0)) (by (with_reducible repeat (first | refine blk_drewN ?_ _ | refine blk_drew ?_ | refine blk_alloc ?_ _)); exact BK106.out) hg (Kd.R_ne HO_5.out BK106.out (by decide))); have n1_ := Aside0.mk (hb); have n2_ := Aside0.mk (ho); clear BK106; clear HB; clear HO_5; have BK106 := n0_; have HB := n1_; have HO110 := n2_; clear n0_ n1_ n2_; clear ho hb hg hat))
                    go_roundg k1
                    case measure => have := HK1.out; omega
                    case rel => exact ⟨(y108), (wrap64 (x10_1 + 1)), (by first | rfl | (simp; done) | (simp [*]; done)), H', ⟨by have := HK1.out; omega⟩, ⟨by (with_reducible repeat (first | apply Kd.R_alloc | apply Kd.R_drewN | apply Kd.R_drew)); exact HO110.out⟩, ⟨by repeat (first | (with_reducible first | exact HB.out | apply below_alloc | apply pw_below_drewN | apply below_drew1 | refine below_set ?_ GE106.out) | exact HB.out)⟩⟩
                  · rw [if_neg c10] at H
                    exact absurd H (by simp)
                · replace c9 := Bool.eq_false_iff.mpr c9
                  subst c9
                  have H1 : (rights_Watersheds.l0 k1 a1 x5_1 l0 (l0.length : Int) (wrap64 (x10_1 + 1))) = some r := by rw [if_neg (show ¬ (false = true) by decide)] at H; exact H
                  clear H
                  have H := H1
                  clear H1
                  have H' := Aside0.mk H
                  clear H
                  have p105 : 0 ≤ (x10_1 : Int) := of_decide_eq_true (by first | (with_reducible assumption) | assumption)
                  have q105 : x10_1 < (l0.length : Int) := of_decide_eq_true (by first | (with_reducible assumption) | assumption)
                  obtain ⟨ad105, e105, hx105_0, hx105_1, hx105_2, hx105_3, hx105_4, hx105_5, hx105_6, hx105_7⟩ := at_T40 HR0.out x10_1 p105 q105
                  cases e105
                  replace hx105_0 := (HB.out.cell (World.block_lt_of_cell? w _ hx105_0)).trans hx105_0
                  replace hx105_1 := (HB.out.cell (World.block_lt_of_cell? w _ hx105_1)).trans hx105_1
                  replace hx105_2 := (HB.out.cell (World.block_lt_of_cell? w _ hx105_2)).trans hx105_2
                  replace hx105_3 := (HB.out.cell (World.block_lt_of_cell? w _ hx105_3)).trans hx105_3
                  replace hx105_4 := (HB.out.cell (World.block_lt_of_cell? w _ hx105_4)).trans hx105_4
                  replace hx105_5 := (HB.out.cell (World.block_lt_of_cell? w _ hx105_5)).trans hx105_5
                  replace hx105_6 := (HB.out.cell (World.block_lt_of_cell? w _ hx105_6)).trans hx105_6
                  replace hx105_7 := (HB.out.cell (World.block_lt_of_cell? w _ hx105_7)).trans hx105_7
                  replace p105 := eq_true p105
                  replace q105 := eq_true q105
                  go_wp2_with (first | ((with_reducible refine gate_dst (N := 7) rfl ?_); refine box_event ?hg (N := 7) ?hd (cs := #[.int .i64 0, .int .i64 0, .int .i64 0, .int .i64 0, .int .i64 0, .int .i64 0, .int .i64 0, .int .i64 0]) (t := 40) ?hr ?_; (case hd => rfl); (case hg => rfl); (case hr => first | (go_simp; done) | (go_simp; rfl)); intro gb106 hg w16 hbox hb; have n0_ := Aside0.mk (Kd.R_below (by (with_reducible repeat (first | apply Kd.R_alloc | apply Kd.R_drewN | apply Kd.R_drew)); exact HO_5.out) hb); have n1_ := Aside0.mk (below_step (by repeat (first | (with_reducible first | exact HB.out | apply below_alloc | apply pw_below_drewN | apply below_drew1) | exact HB.out)) hb); have n2_ := Aside0.mk (hbox); have n3_ := Aside0.mk ((by rw [hg]; exact (below_size (by repeat (first | (with_reducible first | exact HB.out | apply below_alloc | apply pw_below_drewN | apply below_drew1) | exact HB.out))) : w.heap.size ≤ gb106)); have n4_ := Aside0.mk ((by rw [hg]; exact (below_size (by repeat (first | (with_reducible first | exact HB.out | apply below_alloc | apply pw_below_drewN | apply below_drew1) | exact HB.out))) : w.heap.size ≤ gb106)); clear HO_5; clear HB; have HO_5 := n0_; have HB := n1_; have BK106 := n2_; have GW106 := n3_; have GE106 := n4_; clear n0_ n1_ n2_ n3_ n4_; clear hb hbox hg; have hcz17_0 : w16.cell? ⟨gb106, 0, none⟩ = some (.int .i64 0) := (blk_cell BK106.out 0).trans rfl; have hcz17_1 : w16.cell? ⟨gb106, 1, none⟩ = some (.int .i64 0) := (blk_cell BK106.out 1).trans rfl; have hcz17_2 : w16.cell? ⟨gb106, 2, none⟩ = some (.int .i64 0) := (blk_cell BK106.out 2).trans rfl; have hcz17_3 : w16.cell? ⟨gb106, 3, none⟩ = some (.int .i64 0) := (blk_cell BK106.out 3).trans rfl; have hcz17_4 : w16.cell? ⟨gb106, 4, none⟩ = some (.int .i64 0) := (blk_cell BK106.out 4).trans rfl; have hcz17_5 : w16.cell? ⟨gb106, 5, none⟩ = some (.int .i64 0) := (blk_cell BK106.out 5).trans rfl; have hcz17_6 : w16.cell? ⟨gb106, 6, none⟩ = some (.int .i64 0) := (blk_cell BK106.out 6).trans rfl; have hcz17_7 : w16.cell? ⟨gb106, 7, none⟩ = some (.int .i64 0) := (blk_cell BK106.out 7).trans rfl; have hfz17_0 := blk_frozen BK106.out 0; have hfz17_1 := blk_frozen BK106.out 1; have hfz17_2 := blk_frozen BK106.out 2; have hfz17_3 := blk_frozen BK106.out 3; have hfz17_4 := blk_frozen BK106.out 4; have hfz17_5 := blk_frozen BK106.out 5; have hfz17_6 := blk_frozen BK106.out 6; have hfz17_7 := blk_frozen BK106.out 7) | (go_at_call 24; (with_reducible refine (rights_Valid.calls k1 ((rd_T40 l0 x10_1).f0) ((rd_T40 l0 x10_1).f1) ((rd_T40 l0 x10_1).f2) ((rd_T40 l0 x10_1).f3) ((rd_T40 l0 x10_1).f4) ((rd_T40 l0 x10_1).f5) ((rd_T40 l0 x10_1).f6) ((rd_T40 l0 x10_1).f7) false _ A8.out).mono ?_); rintro e w18 ⟨rfl, hb⟩; have n0_ := Aside0.mk (Kd.R_below (by (with_reducible repeat (first | apply Kd.R_alloc | apply Kd.R_drewN | apply Kd.R_drew)); exact (Kd.R_mono (Kd.R_far (p := ⟨gb106, 7, none⟩) (Kd.R_far (p := ⟨gb106, 6, none⟩) (Kd.R_far (p := ⟨gb106, 5, none⟩) (Kd.R_far (p := ⟨gb106, 4, none⟩) (Kd.R_far (p := ⟨gb106, 3, none⟩) (Kd.R_far (p := ⟨gb106, 2, none⟩) (Kd.R_far (p := ⟨gb106, 1, none⟩) (Kd.R_far (p := ⟨gb106, 0, none⟩) (Kd.R_types HO_5.out BK106.out (by decide)) (fun _ hk => hk.2) (.int .i64 ((rd_T40 l0 x10_1).f0))) (fun _ hk => hk.2) (.int .i64 ((rd_T40 l0 x10_1).f1))) (fun _ hk => hk.2) (.int .i64 ((rd_T40 l0 x10_1).f2))) (fun _ hk => hk.2) (.int .i64 ((rd_T40 l0 x10_1).f3))) (fun _ hk => hk.2) (.int .i64 ((rd_T40 l0 x10_1).f4))) (fun _ hk => hk.2) (.int .i64 ((rd_T40 l0 x10_1).f5))) (fun _ hk => hk.2) (.int .i64 ((rd_T40 l0 x10_1).f6))) (fun _ hk => hk.2) (.int .i64 ((rd_T40 l0 x10_1).f7))) (fun _ h_ => h_.1))) hb); have n1_ := Aside0.mk (blk_below (g := gb106) (o := .cells #[.int .i64 ((rd_T40 l0 x10_1).f0), .int .i64 ((rd_T40 l0 x10_1).f1), .int .i64 ((rd_T40 l0 x10_1).f2), .int .i64 ((rd_T40 l0 x10_1).f3), .int .i64 ((rd_T40 l0 x10_1).f4), .int .i64 ((rd_T40 l0 x10_1).f5), .int .i64 ((rd_T40 l0 x10_1).f6), .int .i64 ((rd_T40 l0 x10_1).f7)] 40 (0, 0)) (by (with_reducible repeat (first | refine blk_drewN ?_ _ | refine blk_drew ?_ | refine blk_alloc ?_ _)); refine blk_put (cs := #[.int .i64 ((rd_T40 l0 x10_1).f0), .int .i64 ((rd_T40 l0 x10_1).f1), .int .i64 ((rd_T40 l0 x10_1).f2), .int .i64 ((rd_T40 l0 x10_1).f3), .int .i64 ((rd_T40 l0 x10_1).f4), .int .i64 ((rd_T40 l0 x10_1).f5), .int .i64 ((rd_T40 l0 x10_1).f6), .int .i64 0]) ?_ 7 _ rfl; (with_reducible repeat (first | refine blk_drewN ?_ _ | refine blk_drew ?_ | refine blk_alloc ?_ _)); refine blk_put (cs := #[.int .i64 ((rd_T40 l0 x10_1).f0), .int .i64 ((rd_T40 l0 x10_1).f1), .int .i64 ((rd_T40 l0 x10_1).f2), .int .i64 ((rd_T40 l0 x10_1).f3), .int .i64 ((rd_T40 l0 x10_1).f4), .int .i64 ((rd_T40 l0 x10_1).f5), .int .i64 0, .int .i64 0]) ?_ 6 _ rfl; (with_reducible repeat (first | refine blk_drewN ?_ _ | refine blk_drew ?_ | refine blk_alloc ?_ _)); refine blk_put (cs := #[.int .i64 ((rd_T40 l0 x10_1).f0), .int .i64 ((rd_T40 l0 x10_1).f1), .int .i64 ((rd_T40 l0 x10_1).f2), .int .i64 ((rd_T40 l0 x10_1).f3), .int .i64 ((rd_T40 l0 x10_1).f4), .int .i64 0, .int .i64 0, .int .i64 0]) ?_ 5 _ rfl; (with_reducible repeat (first | refine blk_drewN ?_ _ | refine blk_drew ?_ | refine blk_alloc ?_ _)); refine blk_put (cs := #[.int .i64 ((rd_T40 l0 x10_1).f0), .int .i64 ((rd_T40 l0 x10_1).f1), .int .i64 ((rd_T40 l0 x10_1).f2), .int .i64 ((rd_T40 l0 x10_1).f3), .int .i64 0, .int .i64 0, .int .i64 0, .int .i64 0]) ?_ 4 _ rfl; (with_reducible repeat (first | refine blk_drewN ?_ _ | refine blk_drew ?_ | refine blk_alloc ?_ _)); refine blk_put (cs := #[.int .i64 ((rd_T40 l0 x10_1).f0), .int .i64 ((rd_T40 l0 x10_1).f1), .int .i64 ((rd_T40 l0 x10_1).f2), .int .i64 0, .int .i64 0, .int .i64 0, .int .i64 0, .int .i64 0]) ?_ 3 _ rfl; (with_reducible repeat (first | refine blk_drewN ?_ _ | refine blk_drew ?_ | refine blk_alloc ?_ _)); refine blk_put (cs := #[.int .i64 ((rd_T40 l0 x10_1).f0), .int .i64 ((rd_T40 l0 x10_1).f1), .int .i64 0, .int .i64 0, .int .i64 0, .int .i64 0, .int .i64 0, .int .i64 0]) ?_ 2 _ rfl; (with_reducible repeat (first | refine blk_drewN ?_ _ | refine blk_drew ?_ | refine blk_alloc ?_ _)); refine blk_put (cs := #[.int .i64 ((rd_T40 l0 x10_1).f0), .int .i64 0, .int .i64 0, .int .i64 0, .int .i64 0, .int .i64 0, .int .i64 0, .int .i64 0]) ?_ 1 _ rfl; (with_reducible repeat (first | refine blk_drewN ?_ _ | refine blk_drew ?_ | refine blk_alloc ?_ _)); refine blk_put (cs := #[.int .i64 0, .int .i64 0, .int .i64 0, .int .i64 0, .int .i64 0, .int .i64 0, .int .i64 0, .int .i64 0]) ?_ 0 _ rfl; (with_reducible repeat (first | refine blk_drewN ?_ _ | refine blk_drew ?_ | refine blk_alloc ?_ _)); exact BK106.out) hb); have n2_ := Aside0.mk (below_step (by repeat (first | (with_reducible first | exact HB.out | apply below_alloc | apply pw_below_drewN | apply below_drew1 | refine below_set ?_ GE106.out) | exact HB.out)) hb); clear HO_5; clear BK106; clear HB; have HO_5 := n0_; have BK106 := n1_; have HB := n2_; clear n0_ n1_ n2_; (try clear hb); (try clear hb2); (try clear hk); (try clear hi)))
                  go_roundg k1
                  case measure => have := HK1.out; omega
                  case rel => exact ⟨(x5_1), (wrap64 (x10_1 + 1)), (by first | rfl | (simp; done) | (simp [*]; done)), H', ⟨by have := HK1.out; omega⟩, ⟨by (with_reducible repeat (first | apply Kd.R_alloc | apply Kd.R_drewN | apply Kd.R_drew)); exact HO_5.out⟩, ⟨by repeat (first | (with_reducible first | exact HB.out | apply below_alloc | apply pw_below_drewN | apply below_drew1 | refine below_set ?_ GE106.out) | exact HB.out)⟩⟩
              · rw [if_neg c7] at H
                have c7b0 : decide (((rd_T40 l0 x10_1).f6) ≤ a1) = false := decide_eq_false c7
                clear c7
                have H' := Aside0.mk H
                clear H
                have p105 : 0 ≤ (x10_1 : Int) := of_decide_eq_true (by first | (with_reducible assumption) | assumption)
                have q105 : x10_1 < (l0.length : Int) := of_decide_eq_true (by first | (with_reducible assumption) | assumption)
                obtain ⟨ad105, e105, hx105_0, hx105_1, hx105_2, hx105_3, hx105_4, hx105_5, hx105_6, hx105_7⟩ := at_T40 HR0.out x10_1 p105 q105
                cases e105
                replace hx105_0 := (HB.out.cell (World.block_lt_of_cell? w _ hx105_0)).trans hx105_0
                replace hx105_1 := (HB.out.cell (World.block_lt_of_cell? w _ hx105_1)).trans hx105_1
                replace hx105_2 := (HB.out.cell (World.block_lt_of_cell? w _ hx105_2)).trans hx105_2
                replace hx105_3 := (HB.out.cell (World.block_lt_of_cell? w _ hx105_3)).trans hx105_3
                replace hx105_4 := (HB.out.cell (World.block_lt_of_cell? w _ hx105_4)).trans hx105_4
                replace hx105_5 := (HB.out.cell (World.block_lt_of_cell? w _ hx105_5)).trans hx105_5
                replace hx105_6 := (HB.out.cell (World.block_lt_of_cell? w _ hx105_6)).trans hx105_6
                replace hx105_7 := (HB.out.cell (World.block_lt_of_cell? w _ hx105_7)).trans hx105_7
                replace p105 := eq_true p105
                replace q105 := eq_true q105
                go_wp2_with (first | ((with_reducible refine gate_dst (N := 7) rfl ?_); refine box_event ?hg (N := 7) ?hd (cs := #[.int .i64 0, .int .i64 0, .int .i64 0, .int .i64 0, .int .i64 0, .int .i64 0, .int .i64 0, .int .i64 0]) (t := 40) ?hr ?_; (case hd => rfl); (case hg => rfl); (case hr => first | (go_simp; done) | (go_simp; rfl)); intro gb106 hg w19 hbox hb; have n0_ := Aside0.mk (Kd.R_below (by (with_reducible repeat (first | apply Kd.R_alloc | apply Kd.R_drewN | apply Kd.R_drew)); exact HO_5.out) hb); have n1_ := Aside0.mk (below_step (by repeat (first | (with_reducible first | exact HB.out | apply below_alloc | apply pw_below_drewN | apply below_drew1) | exact HB.out)) hb); have n2_ := Aside0.mk (hbox); have n3_ := Aside0.mk ((by rw [hg]; exact (below_size (by repeat (first | (with_reducible first | exact HB.out | apply below_alloc | apply pw_below_drewN | apply below_drew1) | exact HB.out))) : w.heap.size ≤ gb106)); have n4_ := Aside0.mk ((by rw [hg]; exact (below_size (by repeat (first | (with_reducible first | exact HB.out | apply below_alloc | apply pw_below_drewN | apply below_drew1) | exact HB.out))) : w.heap.size ≤ gb106)); clear HO_5; clear HB; have HO_5 := n0_; have HB := n1_; have BK106 := n2_; have GW106 := n3_; have GE106 := n4_; clear n0_ n1_ n2_ n3_ n4_; clear hb hbox hg; have hcz20_0 : w19.cell? ⟨gb106, 0, none⟩ = some (.int .i64 0) := (blk_cell BK106.out 0).trans rfl; have hcz20_1 : w19.cell? ⟨gb106, 1, none⟩ = some (.int .i64 0) := (blk_cell BK106.out 1).trans rfl; have hcz20_2 : w19.cell? ⟨gb106, 2, none⟩ = some (.int .i64 0) := (blk_cell BK106.out 2).trans rfl; have hcz20_3 : w19.cell? ⟨gb106, 3, none⟩ = some (.int .i64 0) := (blk_cell BK106.out 3).trans rfl; have hcz20_4 : w19.cell? ⟨gb106, 4, none⟩ = some (.int .i64 0) := (blk_cell BK106.out 4).trans rfl; have hcz20_5 : w19.cell? ⟨gb106, 5, none⟩ = some (.int .i64 0) := (blk_cell BK106.out 5).trans rfl; have hcz20_6 : w19.cell? ⟨gb106, 6, none⟩ = some (.int .i64 0) := (blk_cell BK106.out 6).trans rfl; have hcz20_7 : w19.cell? ⟨gb106, 7, none⟩ = some (.int .i64 0) := (blk_cell BK106.out 7).trans rfl; have hfz20_0 := blk_frozen BK106.out 0; have hfz20_1 := blk_frozen BK106.out 1; have hfz20_2 := blk_frozen BK106.out 2; have hfz20_3 := blk_frozen BK106.out 3; have hfz20_4 := blk_frozen BK106.out 4; have hfz20_5 := blk_frozen BK106.out 5; have hfz20_6 := blk_frozen BK106.out 6; have hfz20_7 := blk_frozen BK106.out 7))
                go_roundg k1
                case measure => have := HK1.out; omega
                case rel => exact ⟨(x5_1), (wrap64 (x10_1 + 1)), (by first | rfl | (simp; done) | (simp [*]; done)), H', ⟨by have := HK1.out; omega⟩, ⟨by (with_reducible repeat (first | apply Kd.R_alloc | apply Kd.R_drewN | apply Kd.R_drew)); exact Kd.R_mono (Kd.R_far (p := ⟨gb106, 7, none⟩) (Kd.R_far (p := ⟨gb106, 6, none⟩) (Kd.R_far (p := ⟨gb106, 5, none⟩) (Kd.R_far (p := ⟨gb106, 4, none⟩) (Kd.R_far (p := ⟨gb106, 3, none⟩) (Kd.R_far (p := ⟨gb106, 2, none⟩) (Kd.R_far (p := ⟨gb106, 1, none⟩) (Kd.R_far (p := ⟨gb106, 0, none⟩) (Kd.R_types HO_5.out BK106.out (by decide)) (fun _ hk => hk.2) (.int .i64 ((rd_T40 l0 x10_1).f0))) (fun _ hk => hk.2) (.int .i64 ((rd_T40 l0 x10_1).f1))) (fun _ hk => hk.2) (.int .i64 ((rd_T40 l0 x10_1).f2))) (fun _ hk => hk.2) (.int .i64 ((rd_T40 l0 x10_1).f3))) (fun _ hk => hk.2) (.int .i64 ((rd_T40 l0 x10_1).f4))) (fun _ hk => hk.2) (.int .i64 ((rd_T40 l0 x10_1).f5))) (fun _ hk => hk.2) (.int .i64 ((rd_T40 l0 x10_1).f6))) (fun _ hk => hk.2) (.int .i64 ((rd_T40 l0 x10_1).f7))) (fun _ hk => trivial)⟩, ⟨by repeat (first | (with_reducible first | exact HB.out | apply below_alloc | apply pw_below_drewN | apply below_drew1 | refine below_set ?_ GE106.out) | exact HB.out)⟩⟩
            · rw [if_neg c6] at H
              have c6b0 : (((rd_T40 l0 x10_1).f0) == 6) = false := beq_eq_false_iff_ne.mpr c6
              have c6b1 : (((rd_T40 l0 x10_1).f0) != 6) = true := bne_iff_ne.mpr c6
              have H' := Aside0.mk H
              clear H
              have p105 : 0 ≤ (x10_1 : Int) := of_decide_eq_true (by first | (with_reducible assumption) | assumption)
              have q105 : x10_1 < (l0.length : Int) := of_decide_eq_true (by first | (with_reducible assumption) | assumption)
              obtain ⟨ad105, e105, hx105_0, hx105_1, hx105_2, hx105_3, hx105_4, hx105_5, hx105_6, hx105_7⟩ := at_T40 HR0.out x10_1 p105 q105
              cases e105
              replace hx105_0 := (HB.out.cell (World.block_lt_of_cell? w _ hx105_0)).trans hx105_0
              replace hx105_1 := (HB.out.cell (World.block_lt_of_cell? w _ hx105_1)).trans hx105_1
              replace hx105_2 := (HB.out.cell (World.block_lt_of_cell? w _ hx105_2)).trans hx105_2
              replace hx105_3 := (HB.out.cell (World.block_lt_of_cell? w _ hx105_3)).trans hx105_3
              replace hx105_4 := (HB.out.cell (World.block_lt_of_cell? w _ hx105_4)).trans hx105_4
              replace hx105_5 := (HB.out.cell (World.block_lt_of_cell? w _ hx105_5)).trans hx105_5
              replace hx105_6 := (HB.out.cell (World.block_lt_of_cell? w _ hx105_6)).trans hx105_6
              replace hx105_7 := (HB.out.cell (World.block_lt_of_cell? w _ hx105_7)).trans hx105_7
              replace p105 := eq_true p105
              replace q105 := eq_true q105
              go_wp2_with (first | ((with_reducible refine gate_dst (N := 7) rfl ?_); refine box_event ?hg (N := 7) ?hd (cs := #[.int .i64 0, .int .i64 0, .int .i64 0, .int .i64 0, .int .i64 0, .int .i64 0, .int .i64 0, .int .i64 0]) (t := 40) ?hr ?_; (case hd => rfl); (case hg => rfl); (case hr => first | (go_simp; done) | (go_simp; rfl)); intro gb106 hg w21 hbox hb; have n0_ := Aside0.mk (Kd.R_below (by (with_reducible repeat (first | apply Kd.R_alloc | apply Kd.R_drewN | apply Kd.R_drew)); exact HO_5.out) hb); have n1_ := Aside0.mk (below_step (by repeat (first | (with_reducible first | exact HB.out | apply below_alloc | apply pw_below_drewN | apply below_drew1) | exact HB.out)) hb); have n2_ := Aside0.mk (hbox); have n3_ := Aside0.mk ((by rw [hg]; exact (below_size (by repeat (first | (with_reducible first | exact HB.out | apply below_alloc | apply pw_below_drewN | apply below_drew1) | exact HB.out))) : w.heap.size ≤ gb106)); have n4_ := Aside0.mk ((by rw [hg]; exact (below_size (by repeat (first | (with_reducible first | exact HB.out | apply below_alloc | apply pw_below_drewN | apply below_drew1) | exact HB.out))) : w.heap.size ≤ gb106)); clear HO_5; clear HB; have HO_5 := n0_; have HB := n1_; have BK106 := n2_; have GW106 := n3_; have GE106 := n4_; clear n0_ n1_ n2_ n3_ n4_; clear hb hbox hg; have hcz22_0 : w21.cell? ⟨gb106, 0, none⟩ = some (.int .i64 0) := (blk_cell BK106.out 0).trans rfl; have hcz22_1 : w21.cell? ⟨gb106, 1, none⟩ = some (.int .i64 0) := (blk_cell BK106.out 1).trans rfl; have hcz22_2 : w21.cell? ⟨gb106, 2, none⟩ = some (.int .i64 0) := (blk_cell BK106.out 2).trans rfl; have hcz22_3 : w21.cell? ⟨gb106, 3, none⟩ = some (.int .i64 0) := (blk_cell BK106.out 3).trans rfl; have hcz22_4 : w21.cell? ⟨gb106, 4, none⟩ = some (.int .i64 0) := (blk_cell BK106.out 4).trans rfl; have hcz22_5 : w21.cell? ⟨gb106, 5, none⟩ = some (.int .i64 0) := (blk_cell BK106.out 5).trans rfl; have hcz22_6 : w21.cell? ⟨gb106, 6, none⟩ = some (.int .i64 0) := (blk_cell BK106.out 6).trans rfl; have hcz22_7 : w21.cell? ⟨gb106, 7, none⟩ = some (.int .i64 0) := (blk_cell BK106.out 7).trans rfl; have hfz22_0 := blk_frozen BK106.out 0; have hfz22_1 := blk_frozen BK106.out 1; have hfz22_2 := blk_frozen BK106.out 2; have hfz22_3 := blk_frozen BK106.out 3; have hfz22_4 := blk_frozen BK106.out 4; have hfz22_5 := blk_frozen BK106.out 5; have hfz22_6 := blk_frozen BK106.out 6; have hfz22_7 := blk_frozen BK106.out 7))
              go_roundg k1
              case measure => have := HK1.out; omega
              case rel => exact ⟨(x5_1), (wrap64 (x10_1 + 1)), (by first | rfl | (simp; done) | (simp [*]; done)), H', ⟨by have := HK1.out; omega⟩, ⟨by (with_reducible repeat (first | apply Kd.R_alloc | apply Kd.R_drewN | apply Kd.R_drew)); exact Kd.R_mono (Kd.R_far (p := ⟨gb106, 7, none⟩) (Kd.R_far (p := ⟨gb106, 6, none⟩) (Kd.R_far (p := ⟨gb106, 5, none⟩) (Kd.R_far (p := ⟨gb106, 4, none⟩) (Kd.R_far (p := ⟨gb106, 3, none⟩) (Kd.R_far (p := ⟨gb106, 2, none⟩) (Kd.R_far (p := ⟨gb106, 1, none⟩) (Kd.R_far (p := ⟨gb106, 0, none⟩) (Kd.R_types HO_5.out BK106.out (by decide)) (fun _ hk => hk.2) (.int .i64 ((rd_T40 l0 x10_1).f0))) (fun _ hk => hk.2) (.int .i64 ((rd_T40 l0 x10_1).f1))) (fun _ hk => hk.2) (.int .i64 ((rd_T40 l0 x10_1).f2))) (fun _ hk => hk.2) (.int .i64 ((rd_T40 l0 x10_1).f3))) (fun _ hk => hk.2) (.int .i64 ((rd_T40 l0 x10_1).f4))) (fun _ hk => hk.2) (.int .i64 ((rd_T40 l0 x10_1).f5))) (fun _ hk => hk.2) (.int .i64 ((rd_T40 l0 x10_1).f6))) (fun _ hk => hk.2) (.int .i64 ((rd_T40 l0 x10_1).f7))) (fun _ hk => trivial)⟩, ⟨by repeat (first | (with_reducible first | exact HB.out | apply below_alloc | apply pw_below_drewN | apply below_drew1 | refine below_set ?_ GE106.out) | exact HB.out)⟩⟩
          · rw [if_neg c5] at H
            exact absurd H (by simp)
        · rw [if_neg c4] at H
          exact absurd H (by simp)
      · rw [if_neg c3] at H
        have c3b0 : decide (x10_1 < (l0.length : Int)) = false := decide_eq_false c3
        clear c3
        obtain rfl := Option.some.inj H
        go_wp2
        go_ret
        exact ⟨_, by first | rfl | (simp [errW_none, errW_some] <;> rfl) | (simp [*, errW_none, errW_some] <;> rfl), by (with_reducible repeat (first | apply Kd.R_alloc | apply Kd.R_drewN | apply Kd.R_drew)); exact HO_5.out, by repeat (first | (with_reducible first | exact HB.out | apply below_alloc | apply pw_below_drewN | apply below_drew1) | exact HB.out)⟩

def onairref06_SameList.l0 : Nat → List (S40) → List (S40) → Int → Option (Bool)
  | 0, _, _, _ => none
  | k + 1, x0, x1, x5 => if x5 < (x0.length : Int) then (if 0 ≤ x5 then (if x5 < (x1.length : Int) then ((onairref06_Same.f ((rd_T40 x0 x5).f0) ((rd_T40 x0 x5).f1) ((rd_T40 x0 x5).f2) ((rd_T40 x0 x5).f3) ((rd_T40 x0 x5).f4) ((rd_T40 x0 x5).f5) ((rd_T40 x0 x5).f6) ((rd_T40 x0 x5).f7) ((rd_T40 x1 x5).f0) ((rd_T40 x1 x5).f1) ((rd_T40 x1 x5).f2) ((rd_T40 x1 x5).f3) ((rd_T40 x1 x5).f4) ((rd_T40 x1 x5).f5) ((rd_T40 x1 x5).f6) ((rd_T40 x1 x5).f7)).bind fun t113 => (if t113 = true then (onairref06_SameList.l0 k x0 x1 (wrap64 (x5 + 1))) else (some false))) else (none)) else (none)) else (some true)
def onairref06_SameList.f (k : Nat) (l0 : List (S40)) (l1 : List (S40)) : Option (Bool) := if (l0.length : Int) = (l1.length : Int) then (onairref06_SameList.l0 k l0 l1 0) else (some false)
def onairref06_SameList.T6 : Bool × List (List Nat × List Nat) := (true, [([], []), ([], []), ([0, 1], [0, 1]), ([2], [2]), ([], []), ([], []), ([4, 5], [4, 5]), ([6], [6]), ([3, 7], [3, 7]), ([8], [8])])
def onairref06_SameList.B6 : List Nat := [0, 0, 3, 7, 0, 0, 48, 112, 255, 511]
theorem onairref06_SameList.tab6 : rtab .any (opsOf Tryz.f36 6) = onairref06_SameList.T6 := by kernel_rfl
theorem onairref06_SameList.bits6 : waitsOk onairref06_SameList.T6.2 onairref06_SameList.B6 = true := by kernel_rfl
set_option maxHeartbeats 8000000 in
set_option maxRecDepth 100000 in
theorem onairref06_SameList.calls (k : Nat) (A0 : Option Addr) (c0 : Nat) (l0 : List (S40)) (A1 : Option Addr) (c1 : Nat) (l1 : List (S40)) (r : Bool) (w : World) (hr0 : Kd.C k40 w A0 l0.length l0) (hc0 : l0.length ≤ c0) (hr1 : Kd.C k40 w A1 l1.length l1) (hc1 : l1.length ≤ c1) (h : onairref06_SameList.f k l0 l1 = some r) :
    Calls Tryz.prog 36 #[.slice A0 l0.length c0, .slice A1 l1.length c1] w fun e w' => e = .returned (.bool r) ∧ Below w.heap.size w w' := by
  have hu40 := Tryz.underlying40
  have HR0 := Aside0.mk hr0
  have HC0 := Aside0.mk hc0
  clear hr0 hc0
  have HR1 := Aside0.mk hr1
  have HC1 := Aside0.mk hc1
  clear hr1 hc1
  have HB := Aside0.mk (Below.refl w.heap.size w)
  have H : (if (l0.length : Int) = (l1.length : Int) then (onairref06_SameList.l0 k l0 l1 0) else (some false)) = some r := h
  clear h
  by_cases c3 : (l0.length : Int) = (l1.length : Int)
  · rw [if_pos c3] at H
    have c3b0 : ((l0.length : Int) == (l1.length : Int)) = true := beq_iff_eq.mpr c3
    have c3b1 : ((l0.length : Int) != (l1.length : Int)) = false := bne_eq_false_iff_eq.mpr c3
    have c3b2 : (l0.length == l1.length) = true := by first | simpa using c3 | (simp at c3 ⊢; omega)
    clear c3
    have H' := Aside0.mk H
    clear H
    go_enter Tryz.func36, Tryz.ntmps36
    go_wp2
    go_loopg [5] k (fun kq v5 w' => ∃ (x5_1 : Int), v5 = .int .i64 x5_1 ∧ Aside0 (onairref06_SameList.l0 kq l0 l1 x5_1 = some r) ∧ Aside0 (kq ≤ k) ∧ Aside0 (Below w.heap.size w w'))
    case atStart => exact ⟨(0), (by first | rfl | (simp; done) | (simp [*]; done)), H', ⟨Nat.le_refl _⟩, ⟨by repeat (first | (with_reducible first | exact HB.out | apply below_alloc | apply pw_below_drewN | apply below_drew1) | exact HB.out)⟩⟩
    case round =>
      clear H'
      try clear c1
      try clear p2
      try clear c3
      try clear c3b0
      try clear c3b1
      try clear c3b2
      obtain ⟨x5_1, rfl, HA, HK1, HB⟩ := hrel
      cases gk with
      | zero => exact absurd HA.out (by simp [onairref06_SameList.l0])
      | succ k1 =>
        have H := HA.out
        clear HA
        simp only [onairref06_SameList.l0] at H
        by_cases c4 : x5_1 < (l0.length : Int)
        · rw [if_pos c4] at H
          have c4b0 : decide (x5_1 < (l0.length : Int)) = true := decide_eq_true c4
          clear c4
          by_cases c5 : 0 ≤ x5_1
          · rw [if_pos c5] at H
            have c5b0 : decide (0 ≤ x5_1) = true := decide_eq_true c5
            clear c5
            by_cases c6 : x5_1 < (l1.length : Int)
            · rw [if_pos c6] at H
              have c6b0 : decide (x5_1 < (l1.length : Int)) = true := decide_eq_true c6
              clear c6
              replace H := Option.bind_eq_some_iff.mp H
              obtain ⟨t113, A70, H⟩ := H
              replace H : (if t113 = true then (onairref06_SameList.l0 k1 l0 l1 (wrap64 (x5_1 + 1))) else (some false)) = some r := H
              have A7 := Aside0.mk A70
              clear A70
              by_cases c8 : t113 = true
              · subst c8
                have H1 : (onairref06_SameList.l0 k1 l0 l1 (wrap64 (x5_1 + 1))) = some r := by rw [if_pos rfl] at H; exact H
                clear H
                have H := H1
                clear H1
                have H' := Aside0.mk H
                clear H
                try go_wp2
                have n0_ := Aside0.mk (below_drew1 HB.out)
                clear HB
                have HB := n0_
                clear n0_
                have p111 : 0 ≤ (x5_1 : Int) := of_decide_eq_true (by first | (with_reducible assumption) | assumption)
                have q111 : x5_1 < (l0.length : Int) := of_decide_eq_true (by first | (with_reducible assumption) | assumption)
                obtain ⟨ad111, e111, hx111_0, hx111_1, hx111_2, hx111_3, hx111_4, hx111_5, hx111_6, hx111_7⟩ := at_T40 HR0.out x5_1 p111 q111
                have hw111_7 := hx111_7
                have hw111_6 := hx111_6
                have hw111_5 := hx111_5
                have hw111_4 := hx111_4
                have hw111_3 := hx111_3
                have hw111_2 := hx111_2
                have hw111_1 := hx111_1
                have hw111_0 := hx111_0
                cases e111
                replace hx111_0 := (HB.out.cell (World.block_lt_of_cell? w _ hx111_0)).trans hx111_0
                replace hx111_1 := (HB.out.cell (World.block_lt_of_cell? w _ hx111_1)).trans hx111_1
                replace hx111_2 := (HB.out.cell (World.block_lt_of_cell? w _ hx111_2)).trans hx111_2
                replace hx111_3 := (HB.out.cell (World.block_lt_of_cell? w _ hx111_3)).trans hx111_3
                replace hx111_4 := (HB.out.cell (World.block_lt_of_cell? w _ hx111_4)).trans hx111_4
                replace hx111_5 := (HB.out.cell (World.block_lt_of_cell? w _ hx111_5)).trans hx111_5
                replace hx111_6 := (HB.out.cell (World.block_lt_of_cell? w _ hx111_6)).trans hx111_6
                replace hx111_7 := (HB.out.cell (World.block_lt_of_cell? w _ hx111_7)).trans hx111_7
                replace p111 := eq_true p111
                replace q111 := eq_true q111
                have p112 : 0 ≤ (x5_1 : Int) := of_decide_eq_true (by first | (with_reducible assumption) | assumption)
                have q112 : x5_1 < (l1.length : Int) := of_decide_eq_true (by first | (with_reducible assumption) | assumption)
                obtain ⟨ad112, e112, hx112_0, hx112_1, hx112_2, hx112_3, hx112_4, hx112_5, hx112_6, hx112_7⟩ := at_T40 HR1.out x5_1 p112 q112
                have hw112_7 := hx112_7
                have hw112_6 := hx112_6
                have hw112_5 := hx112_5
                have hw112_4 := hx112_4
                have hw112_3 := hx112_3
                have hw112_2 := hx112_2
                have hw112_1 := hx112_1
                have hw112_0 := hx112_0
                cases e112
                replace hx112_0 := (HB.out.cell (World.block_lt_of_cell? w _ hx112_0)).trans hx112_0
                replace hx112_1 := (HB.out.cell (World.block_lt_of_cell? w _ hx112_1)).trans hx112_1
                replace hx112_2 := (HB.out.cell (World.block_lt_of_cell? w _ hx112_2)).trans hx112_2
                replace hx112_3 := (HB.out.cell (World.block_lt_of_cell? w _ hx112_3)).trans hx112_3
                replace hx112_4 := (HB.out.cell (World.block_lt_of_cell? w _ hx112_4)).trans hx112_4
                replace hx112_5 := (HB.out.cell (World.block_lt_of_cell? w _ hx112_5)).trans hx112_5
                replace hx112_6 := (HB.out.cell (World.block_lt_of_cell? w _ hx112_6)).trans hx112_6
                replace hx112_7 := (HB.out.cell (World.block_lt_of_cell? w _ hx112_7)).trans hx112_7
                replace p112 := eq_true p112
                replace q112 := eq_true q112
                refine start_ (n := 10) (S := fun w' => w'.cell? (ad111.add ((x5_1).toNat * 8)) = some (.int .i64 ((rd_T40 l0 x5_1).f0)) ∧ w'.cell? ⟨(ad111.add ((x5_1).toNat * 8)).block, (ad111.add ((x5_1).toNat * 8)).off + 1, none⟩ = some (.int .i64 ((rd_T40 l0 x5_1).f1)) ∧ w'.cell? ⟨(ad111.add ((x5_1).toNat * 8)).block, (ad111.add ((x5_1).toNat * 8)).off + 2, none⟩ = some (.int .i64 ((rd_T40 l0 x5_1).f2)) ∧ w'.cell? ⟨(ad111.add ((x5_1).toNat * 8)).block, (ad111.add ((x5_1).toNat * 8)).off + 3, none⟩ = some (.int .i64 ((rd_T40 l0 x5_1).f3)) ∧ w'.cell? ⟨(ad111.add ((x5_1).toNat * 8)).block, (ad111.add ((x5_1).toNat * 8)).off + 4, none⟩ = some (.int .i64 ((rd_T40 l0 x5_1).f4)) ∧ w'.cell? ⟨(ad111.add ((x5_1).toNat * 8)).block, (ad111.add ((x5_1).toNat * 8)).off + 5, none⟩ = some (.int .i64 ((rd_T40 l0 x5_1).f5)) ∧ w'.cell? ⟨(ad111.add ((x5_1).toNat * 8)).block, (ad111.add ((x5_1).toNat * 8)).off + 6, none⟩ = some (.int .i64 ((rd_T40 l0 x5_1).f6)) ∧ w'.cell? ⟨(ad111.add ((x5_1).toNat * 8)).block, (ad111.add ((x5_1).toNat * 8)).off + 7, none⟩ = some (.int .i64 ((rd_T40 l0 x5_1).f7)) ∧ w'.cell? (ad112.add ((x5_1).toNat * 8)) = some (.int .i64 ((rd_T40 l1 x5_1).f0)) ∧ w'.cell? ⟨(ad112.add ((x5_1).toNat * 8)).block, (ad112.add ((x5_1).toNat * 8)).off + 1, none⟩ = some (.int .i64 ((rd_T40 l1 x5_1).f1)) ∧ w'.cell? ⟨(ad112.add ((x5_1).toNat * 8)).block, (ad112.add ((x5_1).toNat * 8)).off + 2, none⟩ = some (.int .i64 ((rd_T40 l1 x5_1).f2)) ∧ w'.cell? ⟨(ad112.add ((x5_1).toNat * 8)).block, (ad112.add ((x5_1).toNat * 8)).off + 3, none⟩ = some (.int .i64 ((rd_T40 l1 x5_1).f3)) ∧ w'.cell? ⟨(ad112.add ((x5_1).toNat * 8)).block, (ad112.add ((x5_1).toNat * 8)).off + 4, none⟩ = some (.int .i64 ((rd_T40 l1 x5_1).f4)) ∧ w'.cell? ⟨(ad112.add ((x5_1).toNat * 8)).block, (ad112.add ((x5_1).toNat * 8)).off + 5, none⟩ = some (.int .i64 ((rd_T40 l1 x5_1).f5)) ∧ w'.cell? ⟨(ad112.add ((x5_1).toNat * 8)).block, (ad112.add ((x5_1).toNat * 8)).off + 6, none⟩ = some (.int .i64 ((rd_T40 l1 x5_1).f6)) ∧ w'.cell? ⟨(ad112.add ((x5_1).toNat * 8)).block, (ad112.add ((x5_1).toNat * 8)).off + 7, none⟩ = some (.int .i64 ((rd_T40 l1 x5_1).f7))) (ds := []) #[false, false, false, false, false, false, false, false, false, false] (by kernel_rfl) rfl rfl ⟨((HB.out.cell (World.block_lt_of_cell? w _ hw111_0)).trans hw111_0), ((HB.out.cell (World.block_lt_of_cell? w _ hw111_1)).trans hw111_1), ((HB.out.cell (World.block_lt_of_cell? w _ hw111_2)).trans hw111_2), ((HB.out.cell (World.block_lt_of_cell? w _ hw111_3)).trans hw111_3), ((HB.out.cell (World.block_lt_of_cell? w _ hw111_4)).trans hw111_4), ((HB.out.cell (World.block_lt_of_cell? w _ hw111_5)).trans hw111_5), ((HB.out.cell (World.block_lt_of_cell? w _ hw111_6)).trans hw111_6), ((HB.out.cell (World.block_lt_of_cell? w _ hw111_7)).trans hw111_7), ((HB.out.cell (World.block_lt_of_cell? w _ hw112_0)).trans hw112_0), ((HB.out.cell (World.block_lt_of_cell? w _ hw112_1)).trans hw112_1), ((HB.out.cell (World.block_lt_of_cell? w _ hw112_2)).trans hw112_2), ((HB.out.cell (World.block_lt_of_cell? w _ hw112_3)).trans hw112_3), ((HB.out.cell (World.block_lt_of_cell? w _ hw112_4)).trans hw112_4), ((HB.out.cell (World.block_lt_of_cell? w _ hw112_5)).trans hw112_5), ((HB.out.cell (World.block_lt_of_cell? w _ hw112_6)).trans hw112_6), ((HB.out.cell (World.block_lt_of_cell? w _ hw112_7)).trans hw112_7)⟩ (fun hHeld => ?_); refine with_tabW onairref06_SameList.tab6 onairref06_SameList.bits6 (fun HT_ HW_ => ?_)
                generalize wr.drew = w9 at HB hx111_0 hx111_1 hx111_2 hx111_3 hx111_4 hx111_5 hx111_6 hx111_7 hx112_0 hx112_1 hx112_2 hx112_3 hx112_4 hx112_5 hx112_6 hx112_7 hHeld ⊢
                refine pure_ (i := 0) (N := some 17) (v := ?_) (a' := ?_) #[true, false, false, false, false, false, false, false, false, false] rfl rfl (any_of HT_.out (by kernel_rfl)) (fun _ _ _ h => h) (Or.inl ⟨by rfl, ?_⟩) ?_ ?_
                rotate_left
                · intro w'
                  go_simp
                  with_reducible rfl
                rotate_left
                · simp only [Act.put, List.setIfInBounds_toArray, List.set_cons_zero, List.set_cons_succ, i64_w, i32_w]
                  rfl
                refine pure_ (i := 1) (N := some 18) (v := ?_) (a' := ?_) #[true, true, false, false, false, false, false, false, false, false] rfl rfl (any_of HT_.out (by kernel_rfl)) (fun _ _ _ h => h) (Or.inl ⟨by rfl, ?_⟩) ?_ ?_
                rotate_left
                · intro w'
                  go_simp
                  with_reducible rfl
                rotate_left
                · simp only [Act.put, List.setIfInBounds_toArray, List.set_cons_zero, List.set_cons_succ, i64_w, i32_w]
                  rfl
                refine pure_ (i := 2) (N := some 19) (v := ?_) (a' := ?_) #[true, true, true, false, false, false, false, false, false, false] rfl rfl (any_of HT_.out (by kernel_rfl)) (fun _ _ _ h => h) (Or.inl ⟨by rfl, ?_⟩) ?_ ?_
                rotate_left
                · intro w'
                  go_simp
                  with_reducible rfl
                rotate_left
                · simp only [Act.put, List.setIfInBounds_toArray, List.set_cons_zero, List.set_cons_succ, i64_w, i32_w]
                  rfl
                refine pure_ (i := 4) (N := some 21) (v := ?_) (a' := ?_) #[true, true, true, false, true, false, false, false, false, false] rfl rfl (any_of HT_.out (by kernel_rfl)) (fun _ _ _ h => h) (Or.inl ⟨by rfl, ?_⟩) ?_ ?_
                rotate_left
                · intro w'
                  go_simp
                  with_reducible rfl
                rotate_left
                · simp only [Act.put, List.setIfInBounds_toArray, List.set_cons_zero, List.set_cons_succ, i64_w, i32_w]
                  rfl
                refine pure_ (i := 5) (N := some 22) (v := ?_) (a' := ?_) #[true, true, true, false, true, true, false, false, false, false] rfl rfl (any_of HT_.out (by kernel_rfl)) (fun _ _ _ h => h) (Or.inl ⟨by rfl, ?_⟩) ?_ ?_
                rotate_left
                · intro w'
                  go_simp
                  with_reducible rfl
                rotate_left
                · simp only [Act.put, List.setIfInBounds_toArray, List.set_cons_zero, List.set_cons_succ, i64_w, i32_w]
                  rfl
                refine pure_ (i := 6) (N := some 23) (v := ?_) (a' := ?_) #[true, true, true, false, true, true, true, false, false, false] rfl rfl (any_of HT_.out (by kernel_rfl)) (fun _ _ _ h => h) (Or.inl ⟨by rfl, ?_⟩) ?_ ?_
                rotate_left
                · intro w'
                  go_simp
                  with_reducible rfl
                rotate_left
                · simp only [Act.put, List.setIfInBounds_toArray, List.set_cons_zero, List.set_cons_succ, i64_w, i32_w]
                  rfl
                refine take_ (i := 3) (N := some 20) (v := ?_) (a' := ?_) #[true, true, true, true, true, true, true, false, false, false] rfl rfl (take_ofW HT_.out HW_.out (by kernel_rfl)) (fun _ _ _ h => h) (Or.inl ⟨by rfl, ?_⟩) hHeld ?_ ?_
                rotate_left
                · rintro w' ⟨s0, s1, s2, s3, s4, s5, s6, s7, s8, s9, s10, s11, s12, s13, s14, s15⟩
                  go_simp
                  with_reducible rfl
                rotate_left
                · simp only [Act.put, List.setIfInBounds_toArray, List.set_cons_zero, List.set_cons_succ, i64_w, i32_w]
                  rfl
                refine take_ (i := 7) (N := some 24) (v := ?_) (a' := ?_) #[true, true, true, true, true, true, true, true, false, false] rfl rfl (take_ofW HT_.out HW_.out (by kernel_rfl)) (fun _ _ _ h => h) (Or.inl ⟨by rfl, ?_⟩) hHeld ?_ ?_
                rotate_left
                · rintro w' ⟨s0, s1, s2, s3, s4, s5, s6, s7, s8, s9, s10, s11, s12, s13, s14, s15⟩
                  go_simp
                  with_reducible rfl
                rotate_left
                · simp only [Act.put, List.setIfInBounds_toArray, List.set_cons_zero, List.set_cons_succ, i64_w, i32_w]
                  rfl
                refine one_ (i := 8) (N := some 25) #[true, true, true, true, true, true, true, true, true, false] rfl rfl (one_of HT_.out (by kernel_rfl)) (by decide) (fun K hK => ?_)
                refine goes_ Tryz.func84 (by kernel_rfl) rfl #[.agg #[.int .i64 ((rd_T40 l0 x5_1).f0), .int .i64 ((rd_T40 l0 x5_1).f1), .int .i64 ((rd_T40 l0 x5_1).f2), .int .i64 ((rd_T40 l0 x5_1).f3), .int .i64 ((rd_T40 l0 x5_1).f4), .int .i64 ((rd_T40 l0 x5_1).f5), .int .i64 ((rd_T40 l0 x5_1).f6), .int .i64 ((rd_T40 l0 x5_1).f7)], .agg #[.int .i64 ((rd_T40 l1 x5_1).f0), .int .i64 ((rd_T40 l1 x5_1).f1), .int .i64 ((rd_T40 l1 x5_1).f2), .int .i64 ((rd_T40 l1 x5_1).f3), .int .i64 ((rd_T40 l1 x5_1).f4), .int .i64 ((rd_T40 l1 x5_1).f5), .int .i64 ((rd_T40 l1 x5_1).f6), .int .i64 ((rd_T40 l1 x5_1).f7)]] (by rfl) rfl rfl (by (try simp only [List.map_toArray, List.map_cons, List.map_nil]); first | done | rfl | (simp only [List.length_drop, List.length_take]; rfl)) ?_
                with_reducible refine (onairref06_Same.calls ((rd_T40 l0 x5_1).f0) ((rd_T40 l0 x5_1).f1) ((rd_T40 l0 x5_1).f2) ((rd_T40 l0 x5_1).f3) ((rd_T40 l0 x5_1).f4) ((rd_T40 l0 x5_1).f5) ((rd_T40 l0 x5_1).f6) ((rd_T40 l0 x5_1).f7) ((rd_T40 l1 x5_1).f0) ((rd_T40 l1 x5_1).f1) ((rd_T40 l1 x5_1).f2) ((rd_T40 l1 x5_1).f3) ((rd_T40 l1 x5_1).f4) ((rd_T40 l1 x5_1).f5) ((rd_T40 l1 x5_1).f6) ((rd_T40 l1 x5_1).f7) true _ A7.out).mono ?_
                rintro e w10 ⟨rfl, hb⟩
                refine ⟨_, rfl, ?_⟩
                have n0_ := Aside0.mk (below_step (by repeat (first | (with_reducible first | exact HB.out | apply below_alloc | apply pw_below_drewN | apply below_drew1) | exact HB.out)) hb)
                clear HB
                have HB := n0_
                clear n0_
                (try clear hb)
                (try clear hb2)
                (try clear hk)
                (try clear hi)
                refine hK.out _ _ ⟨((HB.out.cell (World.block_lt_of_cell? w _ hw111_0)).trans hw111_0), ((HB.out.cell (World.block_lt_of_cell? w _ hw111_1)).trans hw111_1), ((HB.out.cell (World.block_lt_of_cell? w _ hw111_2)).trans hw111_2), ((HB.out.cell (World.block_lt_of_cell? w _ hw111_3)).trans hw111_3), ((HB.out.cell (World.block_lt_of_cell? w _ hw111_4)).trans hw111_4), ((HB.out.cell (World.block_lt_of_cell? w _ hw111_5)).trans hw111_5), ((HB.out.cell (World.block_lt_of_cell? w _ hw111_6)).trans hw111_6), ((HB.out.cell (World.block_lt_of_cell? w _ hw111_7)).trans hw111_7), ((HB.out.cell (World.block_lt_of_cell? w _ hw112_0)).trans hw112_0), ((HB.out.cell (World.block_lt_of_cell? w _ hw112_1)).trans hw112_1), ((HB.out.cell (World.block_lt_of_cell? w _ hw112_2)).trans hw112_2), ((HB.out.cell (World.block_lt_of_cell? w _ hw112_3)).trans hw112_3), ((HB.out.cell (World.block_lt_of_cell? w _ hw112_4)).trans hw112_4), ((HB.out.cell (World.block_lt_of_cell? w _ hw112_5)).trans hw112_5), ((HB.out.cell (World.block_lt_of_cell? w _ hw112_6)).trans hw112_6), ((HB.out.cell (World.block_lt_of_cell? w _ hw112_7)).trans hw112_7)⟩ (fun hHeld => ?_)
                clear hK K
                refine norm_ (a' := ?_) ?_ ?_
                rotate_left
                · show Act.put _ (some 25) _ = _
                  simp only [Act.put, List.setIfInBounds_toArray, List.set_cons_zero, List.set_cons_succ, i64_w, i32_w]
                  rfl
                refine pure_ (i := 9) (N := some 26) (v := ?_) (a' := ?_) #[true, true, true, true, true, true, true, true, true, true] rfl rfl (any_of HT_.out (by kernel_rfl)) (fun _ _ _ h => h) (Or.inl ⟨by rfl, ?_⟩) ?_ ?_
                rotate_left
                · intro w'
                  go_simp
                  with_reducible rfl
                rotate_left
                · simp only [Act.put, List.setIfInBounds_toArray, List.set_cons_zero, List.set_cons_succ, i64_w, i32_w]
                  rfl
                refine done_ (done_of HT_.out (by kernel_rfl)) ?_
                try go_wp2
                go_roundg k1
                case measure => have := HK1.out; omega
                case rel => exact ⟨(wrap64 (x5_1 + 1)), (by first | rfl | (simp; done) | (simp [*]; done)), H', ⟨by have := HK1.out; omega⟩, ⟨by repeat (first | (with_reducible first | exact HB.out | apply below_alloc | apply pw_below_drewN | apply below_drew1) | exact HB.out)⟩⟩
              · replace c8 := Bool.eq_false_iff.mpr c8
                subst c8
                have H1 : (some false) = some r := by rw [if_neg (show ¬ (false = true) by decide)] at H; exact H
                clear H
                have H := H1
                clear H1
                obtain rfl := Option.some.inj H
                try go_wp2
                have n0_ := Aside0.mk (below_drew1 HB.out)
                clear HB
                have HB := n0_
                clear n0_
                have p111 : 0 ≤ (x5_1 : Int) := of_decide_eq_true (by first | (with_reducible assumption) | assumption)
                have q111 : x5_1 < (l0.length : Int) := of_decide_eq_true (by first | (with_reducible assumption) | assumption)
                obtain ⟨ad111, e111, hx111_0, hx111_1, hx111_2, hx111_3, hx111_4, hx111_5, hx111_6, hx111_7⟩ := at_T40 HR0.out x5_1 p111 q111
                have hw111_7 := hx111_7
                have hw111_6 := hx111_6
                have hw111_5 := hx111_5
                have hw111_4 := hx111_4
                have hw111_3 := hx111_3
                have hw111_2 := hx111_2
                have hw111_1 := hx111_1
                have hw111_0 := hx111_0
                cases e111
                replace hx111_0 := (HB.out.cell (World.block_lt_of_cell? w _ hx111_0)).trans hx111_0
                replace hx111_1 := (HB.out.cell (World.block_lt_of_cell? w _ hx111_1)).trans hx111_1
                replace hx111_2 := (HB.out.cell (World.block_lt_of_cell? w _ hx111_2)).trans hx111_2
                replace hx111_3 := (HB.out.cell (World.block_lt_of_cell? w _ hx111_3)).trans hx111_3
                replace hx111_4 := (HB.out.cell (World.block_lt_of_cell? w _ hx111_4)).trans hx111_4
                replace hx111_5 := (HB.out.cell (World.block_lt_of_cell? w _ hx111_5)).trans hx111_5
                replace hx111_6 := (HB.out.cell (World.block_lt_of_cell? w _ hx111_6)).trans hx111_6
                replace hx111_7 := (HB.out.cell (World.block_lt_of_cell? w _ hx111_7)).trans hx111_7
                replace p111 := eq_true p111
                replace q111 := eq_true q111
                have p112 : 0 ≤ (x5_1 : Int) := of_decide_eq_true (by first | (with_reducible assumption) | assumption)
                have q112 : x5_1 < (l1.length : Int) := of_decide_eq_true (by first | (with_reducible assumption) | assumption)
                obtain ⟨ad112, e112, hx112_0, hx112_1, hx112_2, hx112_3, hx112_4, hx112_5, hx112_6, hx112_7⟩ := at_T40 HR1.out x5_1 p112 q112
                have hw112_7 := hx112_7
                have hw112_6 := hx112_6
                have hw112_5 := hx112_5
                have hw112_4 := hx112_4
                have hw112_3 := hx112_3
                have hw112_2 := hx112_2
                have hw112_1 := hx112_1
                have hw112_0 := hx112_0
                cases e112
                replace hx112_0 := (HB.out.cell (World.block_lt_of_cell? w _ hx112_0)).trans hx112_0
                replace hx112_1 := (HB.out.cell (World.block_lt_of_cell? w _ hx112_1)).trans hx112_1
                replace hx112_2 := (HB.out.cell (World.block_lt_of_cell? w _ hx112_2)).trans hx112_2
                replace hx112_3 := (HB.out.cell (World.block_lt_of_cell? w _ hx112_3)).trans hx112_3
                replace hx112_4 := (HB.out.cell (World.block_lt_of_cell? w _ hx112_4)).trans hx112_4
                replace hx112_5 := (HB.out.cell (World.block_lt_of_cell? w _ hx112_5)).trans hx112_5
                replace hx112_6 := (HB.out.cell (World.block_lt_of_cell? w _ hx112_6)).trans hx112_6
                replace hx112_7 := (HB.out.cell (World.block_lt_of_cell? w _ hx112_7)).trans hx112_7
                replace p112 := eq_true p112
                replace q112 := eq_true q112
                refine start_ (n := 10) (S := fun w' => w'.cell? (ad111.add ((x5_1).toNat * 8)) = some (.int .i64 ((rd_T40 l0 x5_1).f0)) ∧ w'.cell? ⟨(ad111.add ((x5_1).toNat * 8)).block, (ad111.add ((x5_1).toNat * 8)).off + 1, none⟩ = some (.int .i64 ((rd_T40 l0 x5_1).f1)) ∧ w'.cell? ⟨(ad111.add ((x5_1).toNat * 8)).block, (ad111.add ((x5_1).toNat * 8)).off + 2, none⟩ = some (.int .i64 ((rd_T40 l0 x5_1).f2)) ∧ w'.cell? ⟨(ad111.add ((x5_1).toNat * 8)).block, (ad111.add ((x5_1).toNat * 8)).off + 3, none⟩ = some (.int .i64 ((rd_T40 l0 x5_1).f3)) ∧ w'.cell? ⟨(ad111.add ((x5_1).toNat * 8)).block, (ad111.add ((x5_1).toNat * 8)).off + 4, none⟩ = some (.int .i64 ((rd_T40 l0 x5_1).f4)) ∧ w'.cell? ⟨(ad111.add ((x5_1).toNat * 8)).block, (ad111.add ((x5_1).toNat * 8)).off + 5, none⟩ = some (.int .i64 ((rd_T40 l0 x5_1).f5)) ∧ w'.cell? ⟨(ad111.add ((x5_1).toNat * 8)).block, (ad111.add ((x5_1).toNat * 8)).off + 6, none⟩ = some (.int .i64 ((rd_T40 l0 x5_1).f6)) ∧ w'.cell? ⟨(ad111.add ((x5_1).toNat * 8)).block, (ad111.add ((x5_1).toNat * 8)).off + 7, none⟩ = some (.int .i64 ((rd_T40 l0 x5_1).f7)) ∧ w'.cell? (ad112.add ((x5_1).toNat * 8)) = some (.int .i64 ((rd_T40 l1 x5_1).f0)) ∧ w'.cell? ⟨(ad112.add ((x5_1).toNat * 8)).block, (ad112.add ((x5_1).toNat * 8)).off + 1, none⟩ = some (.int .i64 ((rd_T40 l1 x5_1).f1)) ∧ w'.cell? ⟨(ad112.add ((x5_1).toNat * 8)).block, (ad112.add ((x5_1).toNat * 8)).off + 2, none⟩ = some (.int .i64 ((rd_T40 l1 x5_1).f2)) ∧ w'.cell? ⟨(ad112.add ((x5_1).toNat * 8)).block, (ad112.add ((x5_1).toNat * 8)).off + 3, none⟩ = some (.int .i64 ((rd_T40 l1 x5_1).f3)) ∧ w'.cell? ⟨(ad112.add ((x5_1).toNat * 8)).block, (ad112.add ((x5_1).toNat * 8)).off + 4, none⟩ = some (.int .i64 ((rd_T40 l1 x5_1).f4)) ∧ w'.cell? ⟨(ad112.add ((x5_1).toNat * 8)).block, (ad112.add ((x5_1).toNat * 8)).off + 5, none⟩ = some (.int .i64 ((rd_T40 l1 x5_1).f5)) ∧ w'.cell? ⟨(ad112.add ((x5_1).toNat * 8)).block, (ad112.add ((x5_1).toNat * 8)).off + 6, none⟩ = some (.int .i64 ((rd_T40 l1 x5_1).f6)) ∧ w'.cell? ⟨(ad112.add ((x5_1).toNat * 8)).block, (ad112.add ((x5_1).toNat * 8)).off + 7, none⟩ = some (.int .i64 ((rd_T40 l1 x5_1).f7))) (ds := []) #[false, false, false, false, false, false, false, false, false, false] (by kernel_rfl) rfl rfl ⟨((HB.out.cell (World.block_lt_of_cell? w _ hw111_0)).trans hw111_0), ((HB.out.cell (World.block_lt_of_cell? w _ hw111_1)).trans hw111_1), ((HB.out.cell (World.block_lt_of_cell? w _ hw111_2)).trans hw111_2), ((HB.out.cell (World.block_lt_of_cell? w _ hw111_3)).trans hw111_3), ((HB.out.cell (World.block_lt_of_cell? w _ hw111_4)).trans hw111_4), ((HB.out.cell (World.block_lt_of_cell? w _ hw111_5)).trans hw111_5), ((HB.out.cell (World.block_lt_of_cell? w _ hw111_6)).trans hw111_6), ((HB.out.cell (World.block_lt_of_cell? w _ hw111_7)).trans hw111_7), ((HB.out.cell (World.block_lt_of_cell? w _ hw112_0)).trans hw112_0), ((HB.out.cell (World.block_lt_of_cell? w _ hw112_1)).trans hw112_1), ((HB.out.cell (World.block_lt_of_cell? w _ hw112_2)).trans hw112_2), ((HB.out.cell (World.block_lt_of_cell? w _ hw112_3)).trans hw112_3), ((HB.out.cell (World.block_lt_of_cell? w _ hw112_4)).trans hw112_4), ((HB.out.cell (World.block_lt_of_cell? w _ hw112_5)).trans hw112_5), ((HB.out.cell (World.block_lt_of_cell? w _ hw112_6)).trans hw112_6), ((HB.out.cell (World.block_lt_of_cell? w _ hw112_7)).trans hw112_7)⟩ (fun hHeld => ?_); refine with_tabW onairref06_SameList.tab6 onairref06_SameList.bits6 (fun HT_ HW_ => ?_)
                generalize wr.drew = w11 at HB hx111_0 hx111_1 hx111_2 hx111_3 hx111_4 hx111_5 hx111_6 hx111_7 hx112_0 hx112_1 hx112_2 hx112_3 hx112_4 hx112_5 hx112_6 hx112_7 hHeld ⊢
                refine pure_ (i := 0) (N := some 17) (v := ?_) (a' := ?_) #[true, false, false, false, false, false, false, false, false, false] rfl rfl (any_of HT_.out (by kernel_rfl)) (fun _ _ _ h => h) (Or.inl ⟨by rfl, ?_⟩) ?_ ?_
                rotate_left
                · intro w'
                  go_simp
                  with_reducible rfl
                rotate_left
                · simp only [Act.put, List.setIfInBounds_toArray, List.set_cons_zero, List.set_cons_succ, i64_w, i32_w]
                  rfl
                refine pure_ (i := 1) (N := some 18) (v := ?_) (a' := ?_) #[true, true, false, false, false, false, false, false, false, false] rfl rfl (any_of HT_.out (by kernel_rfl)) (fun _ _ _ h => h) (Or.inl ⟨by rfl, ?_⟩) ?_ ?_
                rotate_left
                · intro w'
                  go_simp
                  with_reducible rfl
                rotate_left
                · simp only [Act.put, List.setIfInBounds_toArray, List.set_cons_zero, List.set_cons_succ, i64_w, i32_w]
                  rfl
                refine pure_ (i := 2) (N := some 19) (v := ?_) (a' := ?_) #[true, true, true, false, false, false, false, false, false, false] rfl rfl (any_of HT_.out (by kernel_rfl)) (fun _ _ _ h => h) (Or.inl ⟨by rfl, ?_⟩) ?_ ?_
                rotate_left
                · intro w'
                  go_simp
                  with_reducible rfl
                rotate_left
                · simp only [Act.put, List.setIfInBounds_toArray, List.set_cons_zero, List.set_cons_succ, i64_w, i32_w]
                  rfl
                refine pure_ (i := 4) (N := some 21) (v := ?_) (a' := ?_) #[true, true, true, false, true, false, false, false, false, false] rfl rfl (any_of HT_.out (by kernel_rfl)) (fun _ _ _ h => h) (Or.inl ⟨by rfl, ?_⟩) ?_ ?_
                rotate_left
                · intro w'
                  go_simp
                  with_reducible rfl
                rotate_left
                · simp only [Act.put, List.setIfInBounds_toArray, List.set_cons_zero, List.set_cons_succ, i64_w, i32_w]
                  rfl
                refine pure_ (i := 5) (N := some 22) (v := ?_) (a' := ?_) #[true, true, true, false, true, true, false, false, false, false] rfl rfl (any_of HT_.out (by kernel_rfl)) (fun _ _ _ h => h) (Or.inl ⟨by rfl, ?_⟩) ?_ ?_
                rotate_left
                · intro w'
                  go_simp
                  with_reducible rfl
                rotate_left
                · simp only [Act.put, List.setIfInBounds_toArray, List.set_cons_zero, List.set_cons_succ, i64_w, i32_w]
                  rfl
                refine pure_ (i := 6) (N := some 23) (v := ?_) (a' := ?_) #[true, true, true, false, true, true, true, false, false, false] rfl rfl (any_of HT_.out (by kernel_rfl)) (fun _ _ _ h => h) (Or.inl ⟨by rfl, ?_⟩) ?_ ?_
                rotate_left
                · intro w'
                  go_simp
                  with_reducible rfl
                rotate_left
                · simp only [Act.put, List.setIfInBounds_toArray, List.set_cons_zero, List.set_cons_succ, i64_w, i32_w]
                  rfl
                refine take_ (i := 3) (N := some 20) (v := ?_) (a' := ?_) #[true, true, true, true, true, true, true, false, false, false] rfl rfl (take_ofW HT_.out HW_.out (by kernel_rfl)) (fun _ _ _ h => h) (Or.inl ⟨by rfl, ?_⟩) hHeld ?_ ?_
                rotate_left
                · rintro w' ⟨s0, s1, s2, s3, s4, s5, s6, s7, s8, s9, s10, s11, s12, s13, s14, s15⟩
                  go_simp
                  with_reducible rfl
                rotate_left
                · simp only [Act.put, List.setIfInBounds_toArray, List.set_cons_zero, List.set_cons_succ, i64_w, i32_w]
                  rfl
                refine take_ (i := 7) (N := some 24) (v := ?_) (a' := ?_) #[true, true, true, true, true, true, true, true, false, false] rfl rfl (take_ofW HT_.out HW_.out (by kernel_rfl)) (fun _ _ _ h => h) (Or.inl ⟨by rfl, ?_⟩) hHeld ?_ ?_
                rotate_left
                · rintro w' ⟨s0, s1, s2, s3, s4, s5, s6, s7, s8, s9, s10, s11, s12, s13, s14, s15⟩
                  go_simp
                  with_reducible rfl
                rotate_left
                · simp only [Act.put, List.setIfInBounds_toArray, List.set_cons_zero, List.set_cons_succ, i64_w, i32_w]
                  rfl
                refine one_ (i := 8) (N := some 25) #[true, true, true, true, true, true, true, true, true, false] rfl rfl (one_of HT_.out (by kernel_rfl)) (by decide) (fun K hK => ?_)
                refine goes_ Tryz.func84 (by kernel_rfl) rfl #[.agg #[.int .i64 ((rd_T40 l0 x5_1).f0), .int .i64 ((rd_T40 l0 x5_1).f1), .int .i64 ((rd_T40 l0 x5_1).f2), .int .i64 ((rd_T40 l0 x5_1).f3), .int .i64 ((rd_T40 l0 x5_1).f4), .int .i64 ((rd_T40 l0 x5_1).f5), .int .i64 ((rd_T40 l0 x5_1).f6), .int .i64 ((rd_T40 l0 x5_1).f7)], .agg #[.int .i64 ((rd_T40 l1 x5_1).f0), .int .i64 ((rd_T40 l1 x5_1).f1), .int .i64 ((rd_T40 l1 x5_1).f2), .int .i64 ((rd_T40 l1 x5_1).f3), .int .i64 ((rd_T40 l1 x5_1).f4), .int .i64 ((rd_T40 l1 x5_1).f5), .int .i64 ((rd_T40 l1 x5_1).f6), .int .i64 ((rd_T40 l1 x5_1).f7)]] (by rfl) rfl rfl (by (try simp only [List.map_toArray, List.map_cons, List.map_nil]); first | done | rfl | (simp only [List.length_drop, List.length_take]; rfl)) ?_
                with_reducible refine (onairref06_Same.calls ((rd_T40 l0 x5_1).f0) ((rd_T40 l0 x5_1).f1) ((rd_T40 l0 x5_1).f2) ((rd_T40 l0 x5_1).f3) ((rd_T40 l0 x5_1).f4) ((rd_T40 l0 x5_1).f5) ((rd_T40 l0 x5_1).f6) ((rd_T40 l0 x5_1).f7) ((rd_T40 l1 x5_1).f0) ((rd_T40 l1 x5_1).f1) ((rd_T40 l1 x5_1).f2) ((rd_T40 l1 x5_1).f3) ((rd_T40 l1 x5_1).f4) ((rd_T40 l1 x5_1).f5) ((rd_T40 l1 x5_1).f6) ((rd_T40 l1 x5_1).f7) false _ A7.out).mono ?_
                rintro e w12 ⟨rfl, hb⟩
                refine ⟨_, rfl, ?_⟩
                have n0_ := Aside0.mk (below_step (by repeat (first | (with_reducible first | exact HB.out | apply below_alloc | apply pw_below_drewN | apply below_drew1) | exact HB.out)) hb)
                clear HB
                have HB := n0_
                clear n0_
                (try clear hb)
                (try clear hb2)
                (try clear hk)
                (try clear hi)
                refine hK.out _ _ ⟨((HB.out.cell (World.block_lt_of_cell? w _ hw111_0)).trans hw111_0), ((HB.out.cell (World.block_lt_of_cell? w _ hw111_1)).trans hw111_1), ((HB.out.cell (World.block_lt_of_cell? w _ hw111_2)).trans hw111_2), ((HB.out.cell (World.block_lt_of_cell? w _ hw111_3)).trans hw111_3), ((HB.out.cell (World.block_lt_of_cell? w _ hw111_4)).trans hw111_4), ((HB.out.cell (World.block_lt_of_cell? w _ hw111_5)).trans hw111_5), ((HB.out.cell (World.block_lt_of_cell? w _ hw111_6)).trans hw111_6), ((HB.out.cell (World.block_lt_of_cell? w _ hw111_7)).trans hw111_7), ((HB.out.cell (World.block_lt_of_cell? w _ hw112_0)).trans hw112_0), ((HB.out.cell (World.block_lt_of_cell? w _ hw112_1)).trans hw112_1), ((HB.out.cell (World.block_lt_of_cell? w _ hw112_2)).trans hw112_2), ((HB.out.cell (World.block_lt_of_cell? w _ hw112_3)).trans hw112_3), ((HB.out.cell (World.block_lt_of_cell? w _ hw112_4)).trans hw112_4), ((HB.out.cell (World.block_lt_of_cell? w _ hw112_5)).trans hw112_5), ((HB.out.cell (World.block_lt_of_cell? w _ hw112_6)).trans hw112_6), ((HB.out.cell (World.block_lt_of_cell? w _ hw112_7)).trans hw112_7)⟩ (fun hHeld => ?_)
                clear hK K
                refine norm_ (a' := ?_) ?_ ?_
                rotate_left
                · show Act.put _ (some 25) _ = _
                  simp only [Act.put, List.setIfInBounds_toArray, List.set_cons_zero, List.set_cons_succ, i64_w, i32_w]
                  rfl
                refine pure_ (i := 9) (N := some 26) (v := ?_) (a' := ?_) #[true, true, true, true, true, true, true, true, true, true] rfl rfl (any_of HT_.out (by kernel_rfl)) (fun _ _ _ h => h) (Or.inl ⟨by rfl, ?_⟩) ?_ ?_
                rotate_left
                · intro w'
                  go_simp
                  with_reducible rfl
                rotate_left
                · simp only [Act.put, List.setIfInBounds_toArray, List.set_cons_zero, List.set_cons_succ, i64_w, i32_w]
                  rfl
                refine done_ (done_of HT_.out (by kernel_rfl)) ?_
                try go_wp2
                go_ret
                exact ⟨by first | rfl | (simp [errW_none, errW_some] <;> rfl) | (simp [*, errW_none, errW_some] <;> rfl), by repeat (first | (with_reducible first | exact HB.out | apply below_alloc | apply pw_below_drewN | apply below_drew1) | exact HB.out)⟩
            · rw [if_neg c6] at H
              exact absurd H (by simp)
          · rw [if_neg c5] at H
            exact absurd H (by simp)
        · rw [if_neg c4] at H
          have c4b0 : decide (x5_1 < (l0.length : Int)) = false := decide_eq_false c4
          clear c4
          obtain rfl := Option.some.inj H
          go_wp2
          go_ret
          exact ⟨by first | rfl | (simp [errW_none, errW_some] <;> rfl) | (simp [*, errW_none, errW_some] <;> rfl), by repeat (first | (with_reducible first | exact HB.out | apply below_alloc | apply pw_below_drewN | apply below_drew1) | exact HB.out)⟩
  · rw [if_neg c3] at H
    have c3b0 : ((l0.length : Int) == (l1.length : Int)) = false := beq_eq_false_iff_ne.mpr c3
    have c3b1 : ((l0.length : Int) != (l1.length : Int)) = true := bne_iff_ne.mpr c3
    have c3b2 : (l0.length == l1.length) = false := by first | simpa using c3 | (simp at c3 ⊢; omega)
    obtain rfl := Option.some.inj H
    go_enter Tryz.func36, Tryz.ntmps36
    go_wp2
    go_ret
    exact ⟨by first | rfl | (simp [errW_none, errW_some] <;> rfl) | (simp [*, errW_none, errW_some] <;> rfl), by repeat (first | (with_reducible first | exact HB.out | apply below_alloc | apply pw_below_drewN | apply below_drew1) | exact HB.out)⟩

end Go.Proofs.YtpefhdjkpdjdpaaGreatDoor.R
namespace Go.Proofs.YtpefhdjkpdjdpaaGreatDoor.R
open Go.RowKit Go.Proofs.YtpefhdjkpdjdpaaGreatDoorW.PrintWords Go.Proofs.YtpefhdjkpdjdpaaGreatDoorW.PrintLast Go.Proofs.YtpefhdjkpdjdpaaGreatDoorW.PrintMore
attribute [local go_sem] max2_int min2_int max_two min_two max_three min_three max_four min_four   -- for this text's walks alone
set_option linter.unusedVariables false
set_option linter.unusedSimpArgs false
end Go.Proofs.YtpefhdjkpdjdpaaGreatDoor.R
namespace Go.Proofs.YtpefhdjkpdjdpaaGreatDoor.R
open Go Go.RowKit Go.Proofs.YtpefhdjkpdjdpaaGreatDoorW.PrintWords Go.Proofs.YtpefhdjkpdjdpaaGreatDoorW.PrintLast Go.Proofs.YtpefhdjkpdjdpaaGreatDoorW.PrintMore
/-- Region 'region' is one of a set of regions. -/
def inReg (set region : Int) : Bool := (Go.bits .and .i64 (shr .i64 set region) 1) == 1
/-- A clause is about an item in a region. -/
def conc (x : S40) (item region : Int) : Bool := decide (0 ≤ region) && decide (region ≤ 7) && (x.f1 == item) && inReg x.f4 region
theorem concerns_f (x : S40) (item region : Int) : rights_concerns.f x.f0 x.f1 x.f2 x.f3 x.f4 x.f5 x.f6 x.f7 item region = some (conc x item region) := by
  unfold rights_concerns.f conc inReg
  simp only [within_f, Option.bind_some]
  by_cases h : (decide (0 ≤ region) && decide (region ≤ 7)) = true
  · have h0 : 0 ≤ region := by simp at h; exact h.1
    rw [if_pos h, h, Bool.true_and]
    by_cases hi : x.f1 = item
    · rw [if_pos hi, if_pos h0, show (x.f1 == item) = true from beq_iff_eq.2 hi, Bool.true_and]
    · rw [if_neg hi, show (x.f1 == item) = false from beq_eq_false_iff_ne.2 hi, Bool.false_and]
  · rw [if_neg h]
    rw [Bool.not_eq_true] at h
    rw [h, Bool.false_and, Bool.false_and]

/-- The test of 'last': a valid clause of a kind about an item in a region. -/
def hit (kind item region : Int) (x : S40) : Bool := (x.f0 == kind) && conc x item region && vld x
end Go.Proofs.YtpefhdjkpdjdpaaGreatDoor.R
namespace Go.Proofs.YtpefhdjkpdjdpaaGreatDoor.R
open Go Go.RowKit Go.Proofs.YtpefhdjkpdjdpaaGreatDoorW.PrintWords Go.Proofs.YtpefhdjkpdjdpaaGreatDoorW.PrintLast Go.Proofs.YtpefhdjkpdjdpaaGreatDoorW.PrintMore
def tx (l : List UInt8) : ByteArray := ⟨l.toArray⟩
theorem tx_data (l : List UInt8) : (tx l).data.toList = l := by simp [tx]
theorem tx_of (s : ByteArray) : tx s.data.toList = s := by simp [tx]
theorem tx_size (l : List UInt8) : (tx l).size = l.length := by simp [tx, ByteArray.size]
theorem itoaT_tx (n : Int) : itoaT n = tx (Lib.itoa n) := rfl

theorem lens_le (ls : List (List UInt8)) (m : Nat) (h : ∀ x ∈ ls, x.length ≤ m) : Lib.lens ls ≤ ls.length * m := by
  induction ls with
  | nil => simp [Lib.lens]
  | cons a r ih =>
    have h1 := h a (by simp)
    have h2 := ih (fun x hx => h x (by simp [hx]))
    have h3 : Lib.lens (a :: r) = a.length + Lib.lens r := by simp [Lib.lens]
    rw [h3, List.length_cons, Nat.add_mul]
    omega
theorem join_le (ls : List (List UInt8)) (sep : List UInt8) (m : Nat) (h : ∀ x ∈ ls, x.length ≤ m) : (Lib.join ls sep).length ≤ ls.length * (sep.length + m) := by
  cases ls with
  | nil => simp [Lib.join_nil]
  | cons a r =>
    rw [Lib.join_length, Nat.mul_add]
    have := lens_le (a :: r) m h
    have h2 : sep.length * r.length ≤ (a :: r).length * sep.length := by rw [List.length_cons, Nat.mul_comm, Nat.add_mul]; omega
    omega
theorem join_f_tx (ls : List (List UInt8)) (sep : List UInt8) (m : Nat) (h : ∀ x ∈ ls, x.length ≤ m) (h1 : ls.length ≤ 1000) (h2 : sep.length + m ≤ 1000) :
    join_.f (ls.map tx) (tx sep) = some (tx (Lib.join ls sep)) := by
  have hj : joinT (ls.map tx) (tx sep) = Lib.join ls sep := by
    unfold joinT
    rw [List.map_map, tx_data]
    congr 1
    exact (List.map_congr_left (g := id) (fun x _ => tx_data x)).trans (List.map_id ls)
  unfold join_.f
  rw [hj, List.length_map]
  have h3 := join_le ls sep m h
  have h4 : ls.length * (sep.length + m) ≤ 1000 * 1000 := Nat.mul_le_mul h1 h2
  rw [if_pos ⟨by omega, by omega⟩]
  rfl

/-- The regions of a set from i on, n of them, as they are written. -/
def regFrom (R : Int) : Nat → Nat → List (List UInt8)
  | _, 0 => []
  | i, n + 1 => if inReg R i then [UInt8.ofNat (48 + i)] :: regFrom R (i + 1) n else regFrom R (i + 1) n
theorem regFrom_one (R : Int) : ∀ n i, ∀ x ∈ regFrom R i n, x.length ≤ 1
  | 0, _, x, hx => by simp [regFrom] at hx
  | n + 1, i, x, hx => by
    unfold regFrom at hx
    split at hx
    · rcases List.mem_cons.1 hx with rfl | h
      · simp
      · exact regFrom_one R n (i + 1) x h
    · exact regFrom_one R n (i + 1) x hx
theorem regFrom_len (R : Int) : ∀ n i, (regFrom R i n).length ≤ n
  | 0, _ => by simp [regFrom]
  | n + 1, i => by
    have := regFrom_len R n (i + 1)
    unfold regFrom
    split
    · simp; omega
    · omega
theorem itoa_small (i : Nat) (h : i < 10) : itoa_.f (i : Int) = some (tx [UInt8.ofNat (48 + i)]) := by
  unfold itoa_.f i64ok
  rw [if_pos (by simp; omega), itoaT_tx, Lib.itoa_nonneg, Lib.decDigits_one h]
theorem regLoop (R : Int) (k : Nat) : ∀ (n i : Nat) (acc : List (List UInt8)), i + n = 8 → acc.length ≤ i → (∀ x ∈ acc, x.length ≤ 1) →
    rights_regionsText.l0 (n + 1 + k) R (acc.map tx) (i : Int) = some (tx (Lib.join (acc ++ regFrom R i n) [44]))
  | 0, i, acc, hi, hl, ha => by
    have e : 0 + 1 + k = k + 1 := by omega
    rw [e]
    unfold rights_regionsText.l0
    rw [if_neg (by omega), show (⟨#[44]⟩ : ByteArray) = tx [44] from rfl, join_f_tx acc [44] 1 ha (by omega) (by simp)]
    simp [regFrom]
  | n + 1, i, acc, hi, hl, ha => by
    have e : n + 1 + 1 + k = (n + 1 + k) + 1 := by omega
    rw [e]
    unfold rights_regionsText.l0
    have hw : wrap64 ((i : Int) + 1) = ((i + 1 : Nat) : Int) := by unfold wrap64; omega
    rw [if_pos (by omega), if_pos (by omega), hw]
    by_cases hb : (Go.bits .and .i64 (shr .i64 R (i : Int)) 1) = 1
    · have hr : inReg R i = true := by unfold inReg; rw [hb]; rfl
      rw [if_pos hb, itoa_small i (by omega), Option.bind_some, if_pos (by simp; omega)]
      have := regLoop R k n (i + 1) (acc ++ [[UInt8.ofNat (48 + i)]]) (by omega) (by simp; omega) (by
        intro x hx
        rcases List.mem_append.1 hx with h | h
        · exact ha x h
        · rw [List.mem_singleton] at h; subst h; simp)
      rw [List.map_append] at this
      rw [show List.map tx [[UInt8.ofNat (48 + i)]] = [tx [UInt8.ofNat (48 + i)]] from rfl] at this
      rw [this]
      conv => rhs; unfold regFrom
      rw [hr, if_pos rfl, List.append_assoc]
      rfl
    · have hr : inReg R i = false := by unfold inReg; exact beq_eq_false_iff_ne.2 hb
      rw [if_neg hb, regLoop R k n (i + 1) acc (by omega) (by omega) ha]
      conv => rhs; unfold regFrom
      rw [hr]
      rfl
/-- A set of regions as it is written. -/
def regW (R : Int) : List UInt8 := if R = 255 then [97, 108, 108] else Lib.join (regFrom R 0 8) [44]
theorem regW_len (R : Int) : (regW R).length ≤ 16 := by
  unfold regW
  split
  · simp
  · have := join_le (regFrom R 0 8) [44] 1 (regFrom_one R 8 0)
    have h2 := regFrom_len R 8 0
    have h3 : (regFrom R 0 8).length * ([44].length + 1) ≤ 8 * 2 := Nat.mul_le_mul h2 (by simp)
    exact Nat.le_trans this h3
theorem regionsText_f (R : Int) (k : Nat) : rights_regionsText.f (k + 9) R = some (tx (regW R)) := by
  unfold rights_regionsText.f regW
  split
  · rfl
  · have := regLoop R k 8 0 [] (by omega) (by simp) (by simp)
    rw [show 8 + 1 + k = k + 9 by omega] at this
    exact this

/-- A second of the day as it is written. -/
def timeW (s : Int) : List UInt8 := (strOfNums ([(wrap64 (48 + (wrap64 (Int.tdiv (wrap64 (Int.tdiv s 3600)) 10)))) % 256, (wrap64 (48 + (Int.tmod (wrap64 (Int.tdiv s 3600)) 10))) % 256, 58, (wrap64 (48 + (wrap64 (Int.tdiv (Int.tmod (wrap64 (Int.tdiv s 60)) 60) 10)))) % 256, (wrap64 (48 + (Int.tmod (Int.tmod (wrap64 (Int.tdiv s 60)) 60) 10))) % 256] : List Int)).data.toList
theorem timeText_f (s : Int) : rights_timeText.f s = some (tx (timeW s)) := by
  unfold rights_timeText.f timeW
  rw [tx_of]
theorem timeW_len (s : Int) : (timeW s).length ≤ 16 := by
  unfold timeW strOfNums
  simp

/-- The words of a valid clause's line. -/
def wordsOf (x : S40) : List (List UInt8) :=
  if x.f0 = 1 then [[103, 114, 97, 110, 116], Lib.itoa x.f1, [102, 114, 111, 109], Lib.itoa x.f2, [116, 111], Lib.itoa x.f3, [105, 110], regW x.f4]
  else if x.f0 = 2 then [[119, 105, 116, 104, 100, 114, 97, 119], Lib.itoa x.f1, [102, 114, 111, 109], Lib.itoa x.f2, [116, 111], Lib.itoa x.f3, [105, 110], regW x.f4]
  else if x.f0 = 3 then [[114, 117, 110, 115], Lib.itoa x.f1, Lib.itoa x.f5, [105, 110], regW x.f4]
  else if x.f0 = 4 then [[99, 97, 116, 99, 104, 117, 112], Lib.itoa x.f1, Lib.itoa x.f5, [105, 110], regW x.f4]
  else if x.f0 = 5 then [[99, 111, 109, 112, 101, 116, 101], Lib.itoa x.f6, Lib.itoa x.f7, [103, 97, 112], Lib.itoa x.f5]
  else [[119, 97, 116, 101, 114, 115, 104, 101, 100], Lib.itoa x.f6, [102, 114, 111, 109], timeW x.f2, [116, 111], timeW x.f3]
/-- The line of a valid clause. -/
def lineL (x : S40) : List UInt8 := Lib.join (wordsOf x) [32]

def fits (n : Int) : Prop := -9223372036854775808 ≤ n ∧ n ≤ 9223372036854775807
theorem itoa_f (n : Int) (h : fits n) : itoa_.f n = some (tx (Lib.itoa n)) := by
  unfold itoa_.f i64ok
  rw [if_pos (by rw [Bool.and_eq_true, decide_eq_true_eq, decide_eq_true_eq]; exact h)]
  rfl
theorem itoa_len (n : Int) (h : fits n) : (Lib.itoa n).length ≤ 21 := Lib.itoa_length_le n h.1 h.2
/-- What a valid clause's fields are, kind by kind. -/
theorem vld_cases (x : S40) (h : vld x = true) :
    ((x.f0 = 1 ∨ x.f0 = 2) ∧ x.f5 = 0 ∧ x.f6 = 0 ∧ x.f7 = 0 ∧ (1 ≤ x.f1 ∧ x.f1 ≤ 4611686018427387903 ∧ 1 ≤ x.f4 ∧ x.f4 ≤ 255) ∧ 0 ≤ x.f2 ∧ x.f2 < x.f3 ∧ x.f3 ≤ 10000000000)
    ∨ ((x.f0 = 3 ∨ x.f0 = 4) ∧ x.f2 = 0 ∧ x.f3 = 0 ∧ x.f6 = 0 ∧ x.f7 = 0 ∧ (1 ≤ x.f1 ∧ x.f1 ≤ 4611686018427387903 ∧ 1 ≤ x.f4 ∧ x.f4 ≤ 255) ∧ 0 ≤ x.f5 ∧ x.f5 ≤ 10000000000)
    ∨ (x.f0 = 5 ∧ x.f1 = 0 ∧ x.f2 = 0 ∧ x.f3 = 0 ∧ x.f4 = 0 ∧ 1 ≤ x.f6 ∧ x.f6 ≤ 200 ∧ 1 ≤ x.f7 ∧ x.f7 ≤ 200 ∧ x.f6 ≠ x.f7 ∧ 0 ≤ x.f5 ∧ x.f5 ≤ 86400)
    ∨ (x.f0 = 6 ∧ x.f1 = 0 ∧ x.f4 = 0 ∧ x.f5 = 0 ∧ x.f7 = 0 ∧ 1 ≤ x.f6 ∧ x.f6 ≤ 3 ∧ timeOk x.f2 = true ∧ timeOk x.f3 = true ∧ x.f2 ≠ x.f3) := by
  unfold vld itemOk at h
  by_cases h1 : x.f0 = 1 ∨ x.f0 = 2
  · rw [if_pos h1] at h
    simp only [Bool.and_eq_true, decide_eq_true_eq, beq_iff_eq] at h
    exact .inl ⟨h1, by omega⟩
  rw [if_neg h1] at h
  by_cases h3 : x.f0 = 3
  · rw [if_pos h3] at h
    simp only [Bool.and_eq_true, decide_eq_true_eq, beq_iff_eq] at h
    exact .inr (.inl ⟨.inl h3, by omega⟩)
  rw [if_neg h3] at h
  by_cases h4 : x.f0 = 4
  · rw [if_pos h4] at h
    simp only [Bool.and_eq_true, decide_eq_true_eq, beq_iff_eq] at h
    exact .inr (.inl ⟨.inr h4, by omega⟩)
  rw [if_neg h4] at h
  by_cases h5 : x.f0 = 5
  · rw [if_pos h5] at h
    simp only [Bool.and_eq_true, decide_eq_true_eq, beq_iff_eq, bne_iff_ne] at h
    exact .inr (.inr (.inl ⟨h5, by omega⟩))
  rw [if_neg h5] at h
  by_cases h6 : x.f0 = 6
  · rw [if_pos h6] at h
    simp only [Bool.and_eq_true, decide_eq_true_eq, beq_iff_eq, bne_iff_ne] at h
    exact .inr (.inr (.inr ⟨h6, h.1.1.1.1.1.1.1.1, h.1.1.1.1.1.1.1.2, h.1.1.1.1.1.1.2, h.1.1.1.1.1.2, h.1.1.1.1.2, h.1.1.1.2, h.1.1.2, h.1.2, h.2⟩))
  rw [if_neg h6] at h
  cases h
theorem timeOk_fits {t : Int} (h : timeOk t = true) : fits t := by
  unfold timeOk at h
  simp only [Bool.and_eq_true, decide_eq_true_eq] at h
  exact ⟨by omega, by omega⟩
theorem vld_fits {x : S40} (h : vld x = true) : fits x.f1 ∧ fits x.f2 ∧ fits x.f3 ∧ fits x.f4 ∧ fits x.f5 ∧ fits x.f6 ∧ fits x.f7 := by
  unfold fits
  rcases vld_cases x h with h | h | h | h
  · refine ⟨?_, ?_, ?_, ?_, ?_, ?_, ?_⟩ <;> omega
  · refine ⟨?_, ?_, ?_, ?_, ?_, ?_, ?_⟩ <;> omega
  · refine ⟨?_, ?_, ?_, ?_, ?_, ?_, ?_⟩ <;> omega
  · have h2 := timeOk_fits h.2.2.2.2.2.2.2.1
    have h3 := timeOk_fits h.2.2.2.2.2.2.2.2.1
    unfold fits at h2 h3
    refine ⟨?_, ?_, ?_, ?_, ?_, ?_, ?_⟩ <;> omega
theorem wordsOf_len (x : S40) (h : vld x = true) : ∀ y ∈ wordsOf x, y.length ≤ 21 := by
  obtain ⟨g1, g2, g3, g4, g5, g6, g7⟩ := vld_fits h
  have l1 := itoa_len _ g1
  have l2 := itoa_len _ g2
  have l3 := itoa_len _ g3
  have l5 := itoa_len _ g5
  have l6 := itoa_len _ g6
  have l7 := itoa_len _ g7
  have lr := regW_len x.f4
  have t2 := timeW_len x.f2
  have t3 := timeW_len x.f3
  unfold wordsOf
  intro y hy
  by_cases h1 : x.f0 = 1
  · rw [if_pos h1] at hy
    simp only [List.mem_cons, List.not_mem_nil, or_false] at hy
    rcases hy with e | e | e | e | e | e | e | e <;> rw [e] <;> first | omega | (simp; done)
  rw [if_neg h1] at hy
  by_cases h2 : x.f0 = 2
  · rw [if_pos h2] at hy
    simp only [List.mem_cons, List.not_mem_nil, or_false] at hy
    rcases hy with e | e | e | e | e | e | e | e <;> rw [e] <;> first | omega | (simp; done)
  rw [if_neg h2] at hy
  by_cases h3 : x.f0 = 3
  · rw [if_pos h3] at hy
    simp only [List.mem_cons, List.not_mem_nil, or_false] at hy
    rcases hy with e | e | e | e | e <;> rw [e] <;> first | omega | (simp; done)
  rw [if_neg h3] at hy
  by_cases h4 : x.f0 = 4
  · rw [if_pos h4] at hy
    simp only [List.mem_cons, List.not_mem_nil, or_false] at hy
    rcases hy with e | e | e | e | e <;> rw [e] <;> first | omega | (simp; done)
  rw [if_neg h4] at hy
  by_cases h5 : x.f0 = 5
  · rw [if_pos h5] at hy
    simp only [List.mem_cons, List.not_mem_nil, or_false] at hy
    rcases hy with e | e | e | e | e <;> rw [e] <;> first | omega | (simp; done)
  rw [if_neg h5] at hy
  simp only [List.mem_cons, List.not_mem_nil, or_false] at hy
  rcases hy with e | e | e | e | e | e <;> rw [e] <;> first | omega | (simp; done)
theorem wordsOf_num (x : S40) : (wordsOf x).length ≤ 8 := by
  unfold wordsOf
  repeat' split
  all_goals simp
theorem lineL_len (x : S40) (h : vld x = true) : (lineL x).length ≤ 176 := by
  have h1 := join_le (wordsOf x) [32] 21 (wordsOf_len x h)
  have h2 := wordsOf_num x
  have h3 : (wordsOf x).length * ([32].length + 21) ≤ 8 * 22 := Nat.mul_le_mul h2 (by simp)
  exact Nat.le_trans h1 h3
/-- What line answers at a valid clause. -/
theorem line_f (x : S40) (h : vld x = true) : rights_line.f 12 x.f0 x.f1 x.f2 x.f3 x.f4 x.f5 x.f6 x.f7 = some (tx (lineL x)) := by
  obtain ⟨g1, g2, g3, g4, g5, g6, g7⟩ := vld_fits h
  have hj := join_f_tx (wordsOf x) [32] 21 (wordsOf_len x h) (by have := wordsOf_num x; omega) (by simp)
  rw [show tx [32] = (⟨#[32]⟩ : ByteArray) from rfl] at hj
  unfold rights_line.f
  rw [itoa_f _ g1, Option.bind_some, itoa_f _ g5, Option.bind_some, show (12 : Nat) = 3 + 9 from rfl, regionsText_f, Option.bind_some]
  unfold lineL
  rw [← hj]
  unfold wordsOf
  have hb : ∀ o : Option ByteArray, (o.bind fun t => some t) = o := fun o => by cases o <;> rfl
  rw [show (3 + 9 : Nat) = 11 + 1 from rfl]
  simp only [rights_line.j0, hb]
  by_cases h1 : x.f0 = 1
  · rw [if_pos h1, h1, itoa_f _ g2, itoa_f _ g3]
    rfl
  rw [if_neg h1, if_neg h1]
  by_cases h2 : x.f0 = 2
  · rw [h2, itoa_f _ g2, itoa_f _ g3]
    rfl
  have hq : (x.f0 == 2) = false := beq_eq_false_iff_ne.2 h2
  rw [hq, if_neg (by decide), if_neg h2]
  by_cases h3 : x.f0 = 3
  · rw [if_pos h3, if_pos h3]
    rfl
  rw [if_neg h3, if_neg h3]
  by_cases h4 : x.f0 = 4
  · rw [if_pos h4, if_pos h4]
    rfl
  rw [if_neg h4, if_neg h4]
  by_cases h5 : x.f0 = 5
  · rw [if_pos h5, if_pos h5, itoa_f _ g6, itoa_f _ g7]
    rfl
  rw [if_neg h5, if_neg h5]
  by_cases h6 : x.f0 = 6
  · rw [if_pos h6, itoa_f _ g6, timeText_f, timeText_f]
    rfl
  exfalso
  rcases vld_cases x h with h | h | h | h <;> omega
end Go.Proofs.YtpefhdjkpdjdpaaGreatDoor.R
namespace Go.Proofs.YtpefhdjkpdjdpaaGreatDoor.R
open Go Go.RowKit Go.Proofs.YtpefhdjkpdjdpaaGreatDoorW.PrintWords Go.Proofs.YtpefhdjkpdjdpaaGreatDoorW.PrintLast Go.Proofs.YtpefhdjkpdjdpaaGreatDoorW.PrintMore
/-- A fresh panic with a value that is no nil. -/
def Pan (e : Ending) : Prop := ∃ u pv, e = .panicked [{ v := .iface u pv, recovered := false }]
/-- It answers, or panics. -/
def Ans {α : Type} (enc : α → Value) : Option α → Ending → Prop
  | some x, e => e = .returned (enc x)
  | none, e => Pan e

set_option maxRecDepth 100000 in
set_option maxHeartbeats 2000000 in
theorem word_in (F : Fence) (n : Nat) (h138 : F.fn 138) (hro : F.round = none) (A : Option Addr) (c : Nat) (ws : List ByteArray) (i : Int) (w : World) (hr : Kd.string.C w A ws.length ws) (hi : 0 ≤ i) (hT : TabW w) :
    CallsIn F n Tryz.prog 138 #[.slice A ws.length c, .int .i64 i] w fun e w' => w' = w ∧ Ans Value.string ws[i.toNat]? e := by
  obtain ⟨te, pe, hg⟩ := hT.word
  by_cases hl : i < (ws.length : Int)
  · obtain ⟨ad, rfl, h1⟩ := Kd.at_string hr i hi hl
    have he : ws[i.toNat]? = some (rdOf ByteArray.empty ws i) := by
      have : i.toNat < ws.length := by omega
      simp [rdOf, this]
    rw [he]
    have hb : decide ((ws.length : Int) ≤ i) = false := decide_eq_false (by omega)
    have p0 := eq_true hi
    have q0 := eq_true hl
    clear he hr hT hi hl
    refine callsIn_of_wp Tryz.func138 rfl h138 ?_ hro
    simp only [Tryz.ntmps138, List.size_toArray, List.length_cons, List.length_nil, Nat.reduceAdd, Nat.reduceSub, Array.replicate_succ, Array.replicate_zero, List.push_toArray, List.append_toArray, List.nil_append, List.cons_append]
    gi_wp2
    go_ret
    exact ⟨rfl, rfl⟩
  · have he : ws[i.toNat]? = none := List.getElem?_eq_none (by omega)
    rw [he]
    have hb : decide ((ws.length : Int) ≤ i) = true := decide_eq_true (by omega)
    clear he hr hT hi hl
    refine callsIn_of_wp Tryz.func138 rfl h138 ?_ hro
    simp only [Tryz.ntmps138, List.size_toArray, List.length_cons, List.length_nil, Nat.reduceAdd, Nat.reduceSub, Array.replicate_succ, Array.replicate_zero, List.push_toArray, List.append_toArray, List.nil_append, List.cons_append]
    gi_wp2
    exact ⟨rfl, rfl, te, pe, rfl⟩
theorem word_calls (A : Option Addr) (c : Nat) (ws : List ByteArray) (i : Int) (w : World) (hr : Kd.string.C w A ws.length ws) (hi : 0 ≤ i) (hT : TabW w) :
    Calls Tryz.prog 138 #[.slice A ws.length c, .int .i64 i] w fun e w' => w' = w ∧ Ans Value.string ws[i.toNat]? e :=
  callsIn_wide.1 (word_in Fence.wide 1 trivial rfl A c ws i w hr hi hT)

/-- The number that a word says. -/
def numOf (s : ByteArray) : Option Int := match Lib.atoiAll s.data.toList with
  | .ok v => some v
  | _ => none
/-- strconv.Atoi: the number and no error, or something and an error. -/
theorem atoi_calls (s : ByteArray) (w : World) (hs : s.size ≤ 281474976710656) (hT : TabW w) :
    Calls Tryz.prog 180 #[.string s] w fun e w' => Below w.heap.size w w' ∧ match numOf s with
      | some v => e = .returned (.tuple #[.int .i64 v, .nilIface])
      | none => ∃ v t p, e = .returned (.tuple #[.int .i64 v, .iface t p]) := by
  unfold numOf
  cases h : Lib.atoiAll s.data.toList with
  | ok v =>
    refine (Tryz.strconv_Atoi_ok s (by omega) v h w).mono ?_
    rintro e w' ⟨rfl, h | ⟨t, h⟩⟩
    · subst h; exact ⟨Below.refl _ _, rfl⟩
    · subst h; exact ⟨Lib.bytesWorld_below _ _ _, rfl⟩
  | range =>
    obtain ⟨te, pe, hg⟩ := hT.rng
    refine (Tryz.strconv_Atoi_range s hs h _ w hg (.inr ⟨te, pe, rfl⟩)).mono ?_
    rintro e w' ⟨N, rfl, _, _, hb⟩
    exact ⟨hb, _, _, _, rfl⟩
  | _ =>
    obtain ⟨te, pe, hg⟩ := hT.synt
    refine (Tryz.strconv_Atoi_syntax s hs h _ w hg (.inr ⟨te, pe, rfl⟩)).mono ?_
    rintro e w' ⟨N, rfl, _, _, hb⟩
    exact ⟨hb, _, _, _, rfl⟩

set_option maxRecDepth 100000 in
set_option maxHeartbeats 2000000 in
theorem number_calls (A : Option Addr) (c : Nat) (ws : List ByteArray) (i : Int) (w : World) (hr : Kd.string.C w A ws.length ws) (hs : ∀ s ∈ ws, s.size ≤ 281474976710656) (hi : 0 ≤ i) (hT : TabW w) :
    Calls Tryz.prog 139 #[.slice A ws.length c, .int .i64 i] w fun e w' => Below w.heap.size w w' ∧ Ans (Value.int .i64) (ws[i.toNat]?.bind numOf) e := by
  cases hw : ws[i.toNat]? with
  | none =>
    go_enter Tryz.func139, Tryz.ntmps139
    go_wp2_with (go_at_call 138; refine (word_calls A c ws i _ hr hi hT).mono ?_; rw [hw]; rintro e w1 ⟨rfl, u, pv, rfl⟩)
    exact ⟨rfl, Below.refl _ _, u, pv, rfl⟩
  | some s =>
    have h1 := hs s (List.mem_of_getElem? hw)
    have ha := fun W hW => atoi_calls s W h1 hW
    rw [Option.bind_some]
    cases hn : numOf s with
    | some v =>
      rw [hn] at ha
      go_enter Tryz.func139, Tryz.ntmps139
      go_wp2_with (first
        | (go_at_call 138; refine (word_calls A c ws i _ hr hi hT).mono ?_; rw [hw]; rintro e w1 ⟨rfl, rfl⟩)
        | (go_at_call 180; refine (ha _ hT).mono ?_; rintro e w2 ⟨hb, rfl⟩))
      go_ret
      exact ⟨hb, rfl⟩
    | none =>
      rw [hn] at ha
      obtain ⟨te, pe, hg⟩ := hT.word
      go_enter Tryz.func139, Tryz.ntmps139
      go_wp2_with (first
        | (go_at_call 138; refine (word_calls A c ws i _ hr hi hT).mono ?_; rw [hw]; rintro e w1 ⟨rfl, rfl⟩)
        | (go_at_call 180; refine (ha _ hT).mono ?_; rintro e w2 ⟨hb, v, t, p, rfl⟩; have hg2 := pw_cell_below hb hg))
      exact ⟨rfl, hb, te, pe, rfl⟩

/-- A row of strings in a new block. -/
theorem strs_new (W : World) (t : TypeId) (xs : List ByteArray) (h : xs.length ≤ 9223372036854775807) : Kd.string.C (W.alloc (.cells (xs.map Value.string).toArray t (0, 0))) (some ⟨W.heap.size, 0, none⟩) xs.length xs := by
  refine Kd.C_of_reads (d := ByteArray.empty) ⟨rfl, h, fun _ => ⟨_, rfl, fun j hj => ?_⟩⟩
  have e : ((⟨W.heap.size, 0, none⟩ : Addr).add j) = ⟨W.heap.size, j, none⟩ := by unfold Addr.add; split <;> simp_all
  rw [e, World.cell?_alloc_at _ _ _ _ (by simp)]
  simp [hj]

/-- The second of the day that a word says. -/
def timeOf (s : ByteArray) : Option Int :=
  if (Lib.cut s.data.toList [58]).2.2 = true ∧ (Lib.cut s.data.toList [58]).1.length = 2 ∧ (Lib.cut s.data.toList [58]).2.1.length = 2 then
    (numOf (tx (Lib.cut s.data.toList [58]).1)).bind fun x => (numOf (tx (Lib.cut s.data.toList [58]).2.1)).bind fun y => some (wrap64 (wrap64 (wrap64 (60 * x) + y) * 60))
  else none
theorem below_drewN (w : World) (k : Nat) : Below w.heap.size w (w.drewN k) := ⟨rfl, rfl, rfl, Nat.le_refl _, fun _ _ => rfl⟩

set_option maxRecDepth 100000 in
set_option maxHeartbeats 4000000 in
theorem time_calls (A : Option Addr) (c : Nat) (ws : List ByteArray) (i : Int) (w : World) (hr : Kd.string.C w A ws.length ws) (hs : ∀ s ∈ ws, s.size ≤ 1000000) (hi : 0 ≤ i) (hT : TabW w) :
    Calls Tryz.prog 141 #[.slice A ws.length c, .int .i64 i] w fun e w' => Below w.heap.size w w' ∧ Ans (Value.int .i64) (ws[i.toNat]?.bind timeOf) e := by
  cases hw : ws[i.toNat]? with
  | none =>
    go_enter Tryz.func141, Tryz.ntmps141
    go_wp2_with (go_at_call 138; refine (word_calls A c ws i _ hr hi hT).mono ?_; rw [hw]; rintro e w1 ⟨rfl, u, pv, rfl⟩)
    exact ⟨rfl, Below.refl _ _, u, pv, rfl⟩
  | some s =>
    have h1 := hs s (List.mem_of_getElem? hw)
    obtain ⟨m, hm⟩ := hT.maxLen
    obtain ⟨te, pe, hg⟩ := hT.word
    have hc := Tryz.strings_Cut s ⟨#[58]⟩ m w (by omega) hm
    rw [show (⟨#[58]⟩ : ByteArray).data.toList = [58] from rfl] at hc
    rw [Option.bind_some]
    unfold timeOf
    revert hc
    generalize Lib.cut s.data.toList [58] = q
    obtain ⟨a, b, ok⟩ := q
    intro hc
    simp only at hc ⊢
    rw [show (⟨a.toArray⟩ : ByteArray) = tx a from rfl, show (⟨b.toArray⟩ : ByteArray) = tx b from rfl] at hc
    have sa : ((tx a).size : Int) = (a.length : Int) := by rw [tx_size]
    have sb : ((tx b).size : Int) = (b.length : Int) := by rw [tx_size]
    by_cases hok : ok = true ∧ a.length = 2 ∧ b.length = 2
    · rw [if_pos hok]
      obtain ⟨rfl, hla, hlb⟩ := hok
      have ba : (((tx a).size : Int) != 2) = false := by rw [sa, hla]; rfl
      have bb : (((tx b).size : Int) != 2) = false := by rw [sb, hlb]; rfl
      have hsz : ∀ z ∈ [tx a, tx b], z.size ≤ 281474976710656 := by
        intro z hz
        simp only [List.mem_cons, List.not_mem_nil, or_false] at hz
        rcases hz with rfl | rfl <;> rw [tx_size] <;> omega
      have hn : ∀ (k : Nat) (W : World), Below ((w.drewN k).alloc (.cells #[.string (tx a), .string (tx b)] 9)).heap.size ((w.drewN k).alloc (.cells #[.string (tx a), .string (tx b)] 9)) W → ∀ j : Int, 0 ≤ j →
          Calls Tryz.prog 139 #[.slice (some ⟨w.heap.size, 0, none⟩) 2 2, .int .i64 j] W fun e w' => Below W.heap.size W w' ∧ Ans (Value.int .i64) ([tx a, tx b][j.toNat]?.bind numOf) e := fun k W hb j hj =>
        number_calls (some ⟨w.heap.size, 0, none⟩) 2 [tx a, tx b] j W (Kd.C_below (strs_new (w.drewN k) 9 [tx a, tx b] (by simp)) hb) hsz hj ((hT.below (below_alloc (below_drewN w k) _)).below hb)
      have hn0 : ∀ (k : Nat), Calls Tryz.prog 139 #[.slice (some ⟨w.heap.size, 0, none⟩) 2 2, .int .i64 0] ((w.drewN k).alloc (.cells #[.string (tx a), .string (tx b)] 9)) fun e w' => Below ((w.drewN k).alloc (.cells #[.string (tx a), .string (tx b)] 9)).heap.size ((w.drewN k).alloc (.cells #[.string (tx a), .string (tx b)] 9)) w' ∧ Ans (Value.int .i64) (numOf (tx a)) e := fun k => hn k _ (Below.refl _ _) 0 (Int.le_refl _)
      have hn1 : ∀ (k : Nat) (W : World), Below ((w.drewN k).alloc (.cells #[.string (tx a), .string (tx b)] 9)).heap.size ((w.drewN k).alloc (.cells #[.string (tx a), .string (tx b)] 9)) W →
          Calls Tryz.prog 139 #[.slice (some ⟨w.heap.size, 0, none⟩) 2 2, .int .i64 1] W fun e w' => Below W.heap.size W w' ∧ Ans (Value.int .i64) (numOf (tx b)) e := fun k W hb => hn k W hb 1 (by decide)
      clear hn
      have hAB : ∀ (k : Nat) (W : World), Below ((w.drewN k).alloc (.cells #[.string (tx a), .string (tx b)] 9)).heap.size ((w.drewN k).alloc (.cells #[.string (tx a), .string (tx b)] 9)) W → Below w.heap.size w W := fun k W hb => below_step (below_alloc (below_drewN w k) _) hb
      have hwd := word_calls A c ws i w hr hi hT
      rw [hw] at hwd
      clear hla hlb sa sb hsz hs hr
      cases h0 : numOf (tx a) with
      | none =>
        go_enter Tryz.func141, Tryz.ntmps141
        go_wp2_with (first
          | (go_at_call 138; refine hwd.mono ?_; rintro e w1 ⟨hw1, rfl⟩; replace hw1 := hw1.symm; subst hw1)
          | (go_at_call 181; refine hc.mono ?_; rintro e w1 ⟨rfl, k, rfl⟩)
          | (go_at_call 139; (with_reducible refine (hn0 k).mono ?_); rw [h0]; rintro e w2 ⟨hb, u, pv, rfl⟩))
        exact ⟨rfl, hAB k _ hb, u, pv, rfl⟩
      | some x =>
        rw [Option.bind_some]
        cases h1' : numOf (tx b) with
        | none =>
          go_enter Tryz.func141, Tryz.ntmps141
          go_wp2_with (first
            | (go_at_call 138; refine hwd.mono ?_; rintro e w1 ⟨hw1, rfl⟩; replace hw1 := hw1.symm; subst hw1)
            | (go_at_call 181; refine hc.mono ?_; rintro e w1 ⟨rfl, k, rfl⟩)
            | (go_at_call 139; (with_reducible refine (hn0 k).mono ?_); rw [h0]; rintro e w2 ⟨hb, rfl⟩; have c1 := hn1 k _ hb)
            | (go_at_call 139; (with_reducible refine c1.mono ?_); rw [h1']; rintro e w3 ⟨hb3, u, pv, rfl⟩))
          exact ⟨rfl, below_step (hAB k _ hb) hb3, u, pv, rfl⟩
        | some y =>
          go_enter Tryz.func141, Tryz.ntmps141
          go_wp2_with (first
            | (go_at_call 138; refine hwd.mono ?_; rintro e w1 ⟨hw1, rfl⟩; replace hw1 := hw1.symm; subst hw1)
            | (go_at_call 181; refine hc.mono ?_; rintro e w1 ⟨rfl, k, rfl⟩)
            | (go_at_call 139; (with_reducible refine (hn0 k).mono ?_); rw [h0]; rintro e w2 ⟨hb, rfl⟩; have c1 := hn1 k _ hb)
            | (go_at_call 139; (with_reducible refine c1.mono ?_); rw [h1']; rintro e w3 ⟨hb3, rfl⟩))
          go_ret
          exact ⟨below_step (hAB k _ hb) hb3, rfl⟩
    · rw [if_neg hok]
      have hwd := word_calls A c ws i w hr hi hT
      rw [hw] at hwd
      clear hs hr
      by_cases h2 : ok = true
      · subst h2
        by_cases hla : a.length = 2
        · have hlb : b.length ≠ 2 := fun h => hok ⟨rfl, hla, h⟩
          have ba : (((tx a).size : Int) != 2) = false := by rw [sa, hla]; rfl
          have bb : (((tx b).size : Int) != 2) = true := by rw [sb]; exact bne_iff_ne.2 (by omega)
          clear sa sb hla hlb hok
          go_enter Tryz.func141, Tryz.ntmps141
          go_wp2_with (first
            | (go_at_call 138; refine hwd.mono ?_; rintro e w1 ⟨hw1, rfl⟩; replace hw1 := hw1.symm; subst hw1)
            | (go_at_call 181; refine hc.mono ?_; rintro e w1 ⟨rfl, k, rfl⟩; have hg2 : (w.drewN k).cell? ⟨0, 0, none⟩ = some (.iface te pe) := hg))
          exact ⟨rfl, below_drewN _ _, te, pe, rfl⟩
        · have ba : (((tx a).size : Int) != 2) = true := by rw [sa]; exact bne_iff_ne.2 (by omega)
          clear sa sb hla hok
          go_enter Tryz.func141, Tryz.ntmps141
          go_wp2_with (first
            | (go_at_call 138; refine hwd.mono ?_; rintro e w1 ⟨hw1, rfl⟩; replace hw1 := hw1.symm; subst hw1)
            | (go_at_call 181; refine hc.mono ?_; rintro e w1 ⟨rfl, k, rfl⟩; have hg2 : (w.drewN k).cell? ⟨0, 0, none⟩ = some (.iface te pe) := hg))
          all_goals exact ⟨rfl, below_drewN _ _, te, pe, rfl⟩
      · rw [Bool.not_eq_true] at h2
        subst h2
        clear sa sb hok
        go_enter Tryz.func141, Tryz.ntmps141
        go_wp2_with (first
          | (go_at_call 138; refine hwd.mono ?_; rintro e w1 ⟨hw1, rfl⟩; replace hw1 := hw1.symm; subst hw1)
          | (go_at_call 181; refine hc.mono ?_; rintro e w1 ⟨rfl, k, rfl⟩; have hg2 : (w.drewN k).cell? ⟨0, 0, none⟩ = some (.iface te pe) := hg))
        all_goals exact ⟨rfl, below_drewN _ _, te, pe, rfl⟩
end Go.Proofs.YtpefhdjkpdjdpaaGreatDoor.R
namespace Go.Proofs.YtpefhdjkpdjdpaaGreatDoor.R
open Go Go.RowKit Go.Proofs.YtpefhdjkpdjdpaaGreatDoorW.PrintWords Go.Proofs.YtpefhdjkpdjdpaaGreatDoorW.PrintLast Go.Proofs.YtpefhdjkpdjdpaaGreatDoorW.PrintMore
set_option maxRecDepth 100000 in
theorem ibyte_in (F : Fence) (n : Nat) (h246 : F.fn 246) (h272 : F.fn 272) (hro : F.round = none) (s : ByteArray) (c : Int) (w : World) :
    CallsIn F n Tryz.prog 246 #[.string s, .int .u8 c] w fun e w' => e = .returned (.int .i64 (Lib.indexByte s.data.toList c.toNat.toUInt8)) ∧ w' = w := by
  refine callsIn_of_wp Tryz.func246 rfl h246 ?_ hro
  simp only [Tryz.ntmps246, List.size_toArray, List.length_cons, List.length_nil, Nat.reduceAdd, Nat.reduceSub, Array.replicate_succ, Array.replicate_zero, List.push_toArray, List.append_toArray, List.nil_append, List.cons_append]
  gi_wp2
  rw [run_callFunc_extern Tryz.func272 (by kernel_rfl) (by kernel_rfl) (by kernel_rfl) (e := Extern.BytealgIndexByte.indexByte) (by kernel_rfl), Lib.run_indexByteString]
  simp only [Result.andThen]
  rw [Oper.uponIn_value]
  gi_wp2
  go_ret
  exact ⟨rfl, rfl⟩

set_option maxRecDepth 100000 in
set_option maxHeartbeats 2000000 in
theorem slIndex_in (F : Fence) (n : Nat) (hn : 1 ≤ n) (h220 : F.fn 220) (h246 : F.fn 246) (h272 : F.fn 272) (hro : F.round = none) (s : ByteArray) (c : UInt8) (w : World) :
    CallsIn F n Tryz.prog 220 #[.string s, .string ⟨#[c]⟩] w fun e w' => e = .returned (.int .i64 (Lib.indexByte s.data.toList c)) ∧ w' = w := by
  refine callsIn_of_wp Tryz.func220 rfl h220 ?_ hro
  simp only [Tryz.ntmps220, List.size_toArray, List.length_cons, List.length_nil, Nat.reduceAdd, Nat.reduceSub, Array.replicate_succ, Array.replicate_zero, List.push_toArray, List.append_toArray, List.nil_append, List.cons_append]
  gi_wp2_with (gi_at_call 246; refine (ibyte_in F _ h246 h272 hro _ _ _).mono ?_; rintro e w' ⟨rfl, rfl⟩)
  · have h : ([c] == s.toList) = true := by assumption
    go_ret
    have e : s.data.toList = [c] := by rw [← Lib.toList_data]; exact (beq_iff_eq.1 h).symm
    refine ⟨?_, rfl⟩
    rw [e]
    simp [Lib.indexByte]
  · go_ret
    exact ⟨rfl, rfl⟩

set_option maxRecDepth 100000 in
theorem index_in (F : Fence) (n : Nat) (hn : 2 ≤ n) (h177 : F.fn 177) (h220 : F.fn 220) (h246 : F.fn 246) (h272 : F.fn 272) (hro : F.round = none) (s : ByteArray) (c : UInt8) (w : World) :
    CallsIn F n Tryz.prog 177 #[.string s, .string ⟨#[c]⟩] w fun e w' => e = .returned (.int .i64 (Lib.indexByte s.data.toList c)) ∧ w' = w := by
  have h1 : 1 ≤ n := by omega
  refine callsIn_of_wp Tryz.func177 rfl h177 ?_ hro
  simp only [Tryz.ntmps177, List.size_toArray, List.length_cons, List.length_nil, Nat.reduceAdd, Nat.reduceSub, Array.replicate_succ, Array.replicate_zero, List.push_toArray, List.append_toArray, List.nil_append, List.cons_append]
  gi_wp2_with (gi_at_call 220; refine (slIndex_in F _ (by omega) h220 h246 h272 hro _ _ _).mono ?_; rintro e w' ⟨rfl, rfl⟩)
  go_ret
  exact ⟨rfl, rfl⟩

/-- A string cut at each byte c. -/
def pieces (c : UInt8) : List UInt8 → List (List UInt8)
  | [] => [[]]
  | b :: l => if b == c then [] :: pieces c l else match pieces c l with
    | [] => [[b]]
    | p :: ps => (b :: p) :: ps
theorem pieces_miss (c : UInt8) : ∀ l : List UInt8, Lib.indexByte l c < 0 → pieces c l = [l]
  | [], _ => rfl
  | b :: l, h => by
    have hg := Lib.indexByte_ge l c
    unfold Lib.indexByte at h
    unfold pieces
    by_cases hb : (b == c) = true
    · rw [if_pos hb] at h; omega
    · rw [if_neg hb] at h ⊢
      by_cases h1 : (Lib.indexByte l c == -1) = true
      · rw [pieces_miss c l (by have := beq_iff_eq.1 h1; omega)]
      · rw [if_neg h1] at h
        have : Lib.indexByte l c ≠ -1 := fun e => h1 (beq_iff_eq.2 e)
        omega
theorem pieces_hit (c : UInt8) : ∀ (l : List UInt8) (k : Nat), Lib.indexByte l c = (k : Int) → k < l.length ∧ pieces c l = l.take k :: pieces c (l.drop (k + 1))
  | [], k, h => by unfold Lib.indexByte at h; omega
  | b :: l, k, h => by
    have hg := Lib.indexByte_ge l c
    unfold Lib.indexByte at h
    by_cases hb : (b == c) = true
    · rw [if_pos hb] at h
      obtain rfl : k = 0 := by omega
      refine ⟨by simp, ?_⟩
      conv => lhs; unfold pieces
      rw [if_pos hb]
      rfl
    · rw [if_neg hb] at h
      by_cases h1 : (Lib.indexByte l c == -1) = true
      · rw [if_pos h1] at h; omega
      · rw [if_neg h1] at h
        have : Lib.indexByte l c ≠ -1 := fun e => h1 (beq_iff_eq.2 e)
        obtain ⟨j, hj⟩ : ∃ j : Nat, k = j + 1 := ⟨k - 1, by omega⟩
        subst hj
        obtain ⟨h2, h3⟩ := pieces_hit c l j (by omega)
        refine ⟨by simp; omega, ?_⟩
        conv => lhs; unfold pieces
        rw [if_neg hb, h3]
        rfl
theorem pieces_ne (c : UInt8) : ∀ l : List UInt8, 0 < (pieces c l).length
  | [] => by simp [pieces]
  | b :: l => by
    unfold pieces
    split
    · simp
    · split <;> simp
theorem pieces_len (c : UInt8) : ∀ l : List UInt8, (pieces c l).length ≤ l.length + 1
  | [] => by simp [pieces]
  | b :: l => by
    have := pieces_len c l
    unfold pieces
    split
    · simp; omega
    · split
      · simp
      · rename_i p ps he
        rw [he] at this
        simp at this ⊢
        omega
theorem pieces_le (c : UInt8) : ∀ l : List UInt8, ∀ x ∈ pieces c l, x.length ≤ l.length
  | [], x, h => by simp [pieces] at h; simp [h]
  | b :: l, x, h => by
    have ih := pieces_le c l
    unfold pieces at h
    split at h
    · rcases List.mem_cons.1 h with rfl | h
      · simp
      · have := ih x h; simp; omega
    · split at h
      · rw [List.mem_singleton] at h; subst h; simp
      · rename_i p ps he
        rw [he] at ih
        rcases List.mem_cons.1 h with rfl | h
        · have := ih p (by simp); simp; omega
        · have := ih x (by simp [h]); simp; omega

end Go.Proofs.YtpefhdjkpdjdpaaGreatDoor.R
namespace Go.Proofs.YtpefhdjkpdjdpaaGreatDoor.R
open Go Go.RowKit Go.Proofs.YtpefhdjkpdjdpaaGreatDoorW.PrintWords Go.Proofs.YtpefhdjkpdjdpaaGreatDoorW.PrintLast Go.Proofs.YtpefhdjkpdjdpaaGreatDoorW.PrintMore
set_option maxRecDepth 100000 in
theorem splitSeq_in (F : Fence) (n : Nat) (hn : 1 ≤ n) (h91 : F.fn 91) (h136 : F.fn 136) (hro : F.round = none) (s sep : ByteArray) (w : World) :
    CallsIn F n Tryz.prog 91 #[.string s, .string sep] w fun e w' => e = .returned (.func (.func 175) #[] #[.pointer (some ⟨w.heap.size + 1, 0, none⟩), .pointer (some ⟨w.heap.size, 0, none⟩), .pointer (some ⟨w.heap.size + 1 + 1, 0, none⟩)]) ∧
      w' = ((w.alloc (.cells #[.string s] 9)).alloc (.cells #[.string sep] 9)).alloc (.cells #[.int .i64 0] 3) := by
  have hmf : ∀ (fn : Fn) (first cap : Array Value) (w : World), (Instr.makeFunc fn first cap).run Tryz.prog w = .ok (.func fn first cap) w := fun _ _ _ _ => rfl
  have inner : ∀ m, CallsIn F m Tryz.prog 136 #[.string s, .string sep, .int .i64 0] w fun e w' => e = .returned (.func (.func 175) #[] #[.pointer (some ⟨w.heap.size + 1, 0, none⟩), .pointer (some ⟨w.heap.size, 0, none⟩), .pointer (some ⟨w.heap.size + 1 + 1, 0, none⟩)]) ∧
      w' = ((w.alloc (.cells #[.string s] 9)).alloc (.cells #[.string sep] 9)).alloc (.cells #[.int .i64 0] 3) := fun m => by
    refine callsIn_of_wp Tryz.func136 rfl h136 ?_ hro
    simp only [Tryz.ntmps136, List.size_toArray, List.length_cons, List.length_nil, Nat.reduceAdd, Nat.reduceSub, Array.replicate_succ, Array.replicate_zero, List.push_toArray, List.append_toArray, List.nil_append, List.cons_append]
    gi_wp2
    go_ret
    exact ⟨by simp, rfl⟩
  refine callsIn_of_wp Tryz.func91 rfl h91 ?_ hro
  simp only [Tryz.ntmps91, List.size_toArray, List.length_cons, List.length_nil, Nat.reduceAdd, Nat.reduceSub, Array.replicate_succ, Array.replicate_zero, List.push_toArray, List.append_toArray, List.nil_append, List.cons_append]
  gi_wp2_with (gi_at_call 136; refine (inner _).mono ?_; rintro e w' ⟨rfl, rfl⟩)
  go_ret
  exact ⟨rfl, rfl⟩

theorem tx_extract_take (l : List UInt8) (k : Nat) : (tx l).extract 0 k = tx (l.take k) := by
  apply ByteArray.ext
  rw [ByteArray.data_extract]
  simp [tx]
theorem tx_extract_drop (l : List UInt8) (k : Nat) : (tx l).extract k (tx l).size = tx (l.drop k) := by
  apply ByteArray.ext
  rw [ByteArray.data_extract, tx_size]
  simp only [tx, List.extract_toArray, List.extract_eq_take_drop]
  rw [List.take_of_length_le (by simp)]

/-- No cells of the type of a clause. -/
def not40 (o : Obj) : Prop := ∀ cs fr, o ≠ .cells cs 40 fr
theorem not40_other {o : Obj} (h : o.isCells = false) : not40 o := fun cs fr e => by subst e; cases h
theorem not40_box {v : Value} {t : TypeId} {fr : Nat × Nat} (h : t ≠ 40) : not40 (.cells #[v] t fr) := fun cs fr' e => by cases e; exact h rfl
/-- What lies in these blocks, and is no clause's row, stays. -/
def KeepX (S : Nat → Prop) (A B : World) : Prop := A.heap.size ≤ B.heap.size ∧ ∀ r o, S r → A.heap[r]? = some o → not40 o → B.heap[r]? = some o
theorem KeepX.trans {S : Nat → Prop} {A B C : World} (h : KeepX S A B) (k : KeepX S B C) : KeepX S A C := ⟨Nat.le_trans h.1 k.1, fun r o h1 h2 h3 => k.2 r o h1 (h.2 r o h1 h2 h3) h3⟩
theorem KeepX.refl (S : Nat → Prop) (A : World) : KeepX S A A := ⟨Nat.le_refl _, fun _ _ _ h _ => h⟩
theorem KeepSet.toX {S : Nat → Prop} {A B : World} (h : KeepSet S A B) : KeepX S A B := ⟨h.1, fun r _ h1 h2 _ => (h.2 r h1).trans h2⟩

/-- What is left of the string, as the iterator's cell says it. -/
def leftOf (Bs : Nat) (W : World) : Nat := match W.cell? ⟨Bs, 0, none⟩ with
  | some (.string s) => s.size
  | _ => 0

set_option maxRecDepth 100000 in
set_option maxHeartbeats 4000000 in
theorem split1_in (F : Fence) (n : Nat) (hn : 3 ≤ n) (h175 : F.fn 175) (h177 : F.fn 177) (h220 : F.fn 220) (h246 : F.fn 246) (h272 : F.fn 272) (hro : F.round = none) (l Bp Bs Bv : Nat) (c : UInt8) (s0 : List UInt8) (hs0 : s0.length ≤ 1000000) (Sx : Nat → Prop) (hBp : Sx Bp) (hBs : Sx Bs) (hBv : Sx Bv) (hps : Bp ≠ Bs) (hvs : Bv ≠ Bs) (C : Nat → Obj → Prop) (hC : ∀ o, (∃ v, o = .cells #[v] 9 (0, 0)) → C Bs o)
    (J Jx : List (List UInt8) → World → Prop) (hJ : AbidesC C J) (Jp : List PanicEntry → World → Prop)
    (hY : ∀ pre x W, J pre W → pre.length < (pieces c s0).length → (∃ t, (pre ++ [x]) ++ t = pieces c s0) → YieldAt F (n - 1) Tryz.prog l #[.string (tx x)] W fun e W' =>
      (e = .returned (.bool true) ∧ J (pre ++ [x]) W' ∧ KeepX Sx W W') ∨ (e = .returned (.bool false) ∧ Jx (pre ++ [x]) W' ∧ KeepX Sx W W') ∨ (∃ ch, e = .panicked ch ∧ Jp ch W'))
    (W : World) (kp : Boxed W Bp 9 (.string ⟨#[c]⟩)) (ks : Boxed W Bs 9 (.string (tx s0))) (kv : Boxed W Bv 3 (.int .i64 0)) (h0 : J [] W) :
    CallsIn F n Tryz.prog 175 #[.func (.yield l) #[] #[], .pointer (some ⟨Bp, 0, none⟩), .pointer (some ⟨Bs, 0, none⟩), .pointer (some ⟨Bv, 0, none⟩)] W fun e W' =>
      (∃ v, e = .returned v ∧ ((∃ ys, ys = pieces c s0 ∧ J ys W') ∨ (∃ pre, (∃ t, pre ++ t = pieces c s0) ∧ Jx pre W'))) ∨ (∃ ch, e = .panicked ch ∧ Jp ch W') := by
  have h1 : 1 ≤ n := by omega
  have cp := kp.cell
  refine callsIn_of_wp Tryz.func175 rfl h175 ?_ hro
  simp only [Tryz.ntmps175, List.size_toArray, List.length_cons, List.length_nil, Nat.reduceAdd, Nat.reduceSub, Array.replicate_succ, Array.replicate_zero, List.push_toArray, List.append_toArray, List.nil_append, List.cons_append]
  gi_wp2
  gi_loopw [7] (fun _ wr => ∃ (pre : List (List UInt8)) (rest : List UInt8), pre ++ pieces c rest = pieces c s0 ∧ rest.length ≤ s0.length ∧ Boxed wr Bp 9 (.string ⟨#[c]⟩) ∧ Boxed wr Bs 9 (.string (tx rest)) ∧ Boxed wr Bv 3 (.int .i64 0) ∧ J pre wr)
    (fun _ wr => leftOf Bs wr)
  case atStart => exact ⟨[], s0, rfl, Nat.le_refl _, kp, ks, kv, h0⟩
  case round =>
    clear cp kp ks kv h0
    obtain ⟨pre, rest, hpre, hrest, kp, ks, kv, hJs⟩ := hrel
    have cp := kp.cell
    have cs := ks.cell
    have cv := kv.cell
    have fs := ks.frozen
    have hlen : pre.length < (pieces c s0).length := by rw [← hpre, List.length_append]; have := pieces_ne c rest; omega
    have hidx := index_in F (n - 1) (by omega) h177 h220 h246 h272 hro (tx rest) c wr
    rw [tx_data] at hidx
    rcases Int.lt_or_le (Lib.indexByte rest c) 0 with hi | hi
    · have hb : decide (Lib.indexByte rest c < 0) = true := decide_eq_true hi
      have hp := pieces_miss c rest hi
      obtain ⟨fn, tmps, assign, body, hy, hR⟩ := hY pre rest wr hJs hlen ⟨[], by rw [List.append_nil, ← hpre, hp]⟩
      clear hi
      revert hidx hb
      generalize Lib.indexByte rest c = x
      intro hidx hb
      gi_wp2_with (gi_at_call 177; refine hidx.mono ?_; rintro e w1 ⟨rfl, hw1⟩; replace hw1 := hw1.symm; subst hw1)
      refine hR.mono ?_
      rintro e W3 (⟨rfl, hJ3, hk3⟩ | ⟨rfl, hJx3, _⟩ | ⟨ch, rfl, hp'⟩)
      · gi_wp2
        go_end0
        exact .inl ⟨_, rfl, .inl ⟨_, by rw [← hpre, hp], hJ3⟩⟩
      · gi_wp2
        go_end0
        exact .inl ⟨_, rfl, .inr ⟨_, ⟨[], by rw [← hpre, hp, List.append_nil]⟩, hJx3⟩⟩
      · exact ⟨rfl, .inr ⟨_, rfl, hp'⟩⟩
    · have hb : decide (Lib.indexByte rest c < 0) = false := decide_eq_false (by omega)
      obtain ⟨k, hk⟩ : ∃ k : Nat, Lib.indexByte rest c = (k : Int) := ⟨(Lib.indexByte rest c).toNat, by omega⟩
      obtain ⟨hk1, hk2⟩ := pieces_hit c rest k hk
      rw [hk] at hidx hb
      clear hk hi
      have hsz : ((tx rest).size : Int) = (rest.length : Int) := by rw [tx_size]
      have hext : (tx rest).extract 0 k = tx (rest.take k) := tx_extract_take rest k
      have hext2 : (tx rest).extract (k + 1) (tx rest).size = tx (rest.drop (k + 1)) := tx_extract_drop rest (k + 1)
      obtain ⟨fn, tmps, assign, body, hy, hR⟩ := hY pre (rest.take k) wr hJs hlen ⟨pieces c (rest.drop (k + 1)), by rw [← hpre, hk2, List.append_assoc]; rfl⟩
      gi_wp2_with (gi_at_call 177; refine hidx.mono ?_; rintro e w1 ⟨rfl, hw1⟩; replace hw1 := hw1.symm; subst hw1)
      refine hR.mono ?_
      rintro e W3 (⟨rfl, hJ3, hk3⟩ | ⟨rfl, hJx3, _⟩ | ⟨ch, rfl, hp'⟩)
      · have kp3 : Boxed W3 Bp 9 (.string ⟨#[c]⟩) := hk3.2 _ _ hBp kp (not40_box (by decide))
        have ks3 : Boxed W3 Bs 9 (.string (tx rest)) := hk3.2 _ _ hBs ks (not40_box (by decide))
        have kv3 : Boxed W3 Bv 3 (.int .i64 0) := hk3.2 _ _ hBv kv (not40_box (by decide))
        have cp3 := kp3.cell
        have cs3 := ks3.cell
        have fs3 := ks3.frozen
        have hw : wrap64 ((k : Int) + 1) = ((k + 1 : Nat) : Int) := by unfold wrap64; omega
        gi_wp2
        refine ⟨⟨pre ++ [rest.take k], rest.drop (k + 1), by rw [List.append_assoc, ← hpre, hk2]; rfl, by simp; omega, kp3.other hps _, ks3.set _, kv3.other hvs _, hJ _ W3 _ (some Bs) hJ3 (grownBy_setCell' W3 Bs _) (fun r e => by cases e; exact ⟨_, ks3, hC _ ⟨_, rfl⟩⟩)⟩, ?_⟩
        have e1 := (ks3.set (.string (tx (rest.drop (k + 1))))).cell
        unfold leftOf
        rw [e1, cs]
        simp only [tx_size, List.length_drop]
        omega
      · gi_wp2
        refine bodyPost_ret (results_none rfl _ _ _) rfl ?_
        exact .inl ⟨_, rfl, .inr ⟨_, ⟨pieces c (rest.drop (k + 1)), by rw [← hpre, hk2, List.append_assoc]; rfl⟩, hJx3⟩⟩
      · exact ⟨rfl, .inr ⟨_, rfl, hp'⟩⟩

/-- The blocks of SplitSeq's value. -/
def splSet (B : Nat) (r : Nat) : Prop := r = B ∨ r = B + 1 ∨ r = B + 1 + 1
/-- SplitSeq's value as an iterator: the pieces; it changes the cell that holds what is left. -/
theorem split_stops (F : Fence) (n : Nat) (hn : 3 ≤ n) (h175 : F.fn 175) (h177 : F.fn 177) (h220 : F.fn 220) (h246 : F.fn 246) (h272 : F.fn 272) (hro : F.round = none) (B : Nat) (c : UInt8) (s0 : List UInt8) (hs0 : s0.length ≤ 1000000) (w : World) (hb0 : Boxed w B 9 (.string (tx s0))) (hb1 : Boxed w (B + 1) 9 (.string ⟨#[c]⟩)) (hb2 : Boxed w (B + 1 + 1) 3 (.int .i64 0)) :
    SeqC True F n Tryz.prog 175 #[.pointer (some ⟨B + 1, 0, none⟩), .pointer (some ⟨B, 0, none⟩), .pointer (some ⟨B + 1 + 1, 0, none⟩)] (fun x : List UInt8 => #[.string (tx x)]) (fun _ r o => r = B ∧ ∃ v, o = .cells #[v] 9 (0, 0)) (KeepX (splSet B)) (fun ys => ys = pieces c s0) (fun pre => ∃ t, pre ++ t = pieces c s0) (pieces c s0).length w := by
  intro l J Jx Jp W hW _ hJ _ _ hY h0
  refine (split1_in F n hn h175 h177 h220 h246 h272 hro l (B + 1) B (B + 1 + 1) c s0 hs0 (splSet B) (.inr (.inl rfl)) (.inl rfl) (.inr (.inr rfl)) (by omega) (by omega) (fun r o => r = B ∧ ∃ v, o = .cells #[v] 9 (0, 0)) (fun o h => ⟨rfl, h⟩) J Jx hJ Jp hY W ((hW.block _ hb1.lt).trans hb1) ((hW.block _ hb0.lt).trans hb0) ((hW.block _ hb2.lt).trans hb2) h0).mono ?_
  exact fun e W' h => h
end Go.Proofs.YtpefhdjkpdjdpaaGreatDoor.R
namespace Go.Proofs.YtpefhdjkpdjdpaaGreatDoor.R
open Go Go.RowKit Go.Shelf Go.Proofs.YtpefhdjkpdjdpaaGreatDoorW.PrintWords Go.Proofs.YtpefhdjkpdjdpaaGreatDoorW.PrintLast Go.Proofs.YtpefhdjkpdjdpaaGreatDoorW.PrintMore
attribute [local go_sem] Oper.semAt_some
def lastOf (zs : List S40) (kind item region none_ : Int) : Int :=
  match (downto zs zs.length).find? (fun p => hit kind item region p.2) with
  | some p => p.2.f5
  | none => none_

theorem downto_prefix (l : List S40) {k n : Nat} (hk : k ≤ n) : downto l k <+: downto l n := by
  obtain ⟨d, rfl⟩ := Nat.exists_eq_add_of_le hk
  refine ⟨(List.range d).map (fun j => (l.length - 1 - (k + j), rd_T40 l ((l.length - 1 - (k + j) : Nat) : Int))), ?_⟩
  simp [downto, List.range_add]
theorem find_prefix {α : Type} {f : α → Bool} (l pre : List α) (hp : pre <+: l) (ini : List α) (x : α) (e : pre = ini ++ [x]) (h0 : ∀ p ∈ ini, f p = false) (h1 : f x = true) : l.find? f = some x := by
  obtain ⟨r, rfl⟩ := hp
  subst e
  rw [List.append_assoc, List.find?_append, List.find?_eq_none.2 (fun p hp => by rw [h0 p hp]; simp)]
  simp [h1]
theorem keepsFrom_trans {B : Nat} {X Y Z : World} (h : KeepsFrom B X Y) (k : KeepsFrom B Y Z) : KeepsFrom B X Z := ⟨Nat.le_trans h.size k.size, fun i o hi hx ho => k.same i o hi (h.same i o hi hx ho) ho⟩
theorem below_putObj {B : Nat} {w W : World} {l : Nat} {o : Obj} (h : Below B w W) (hl : B ≤ l) (hk : W.heap[l]? = some o) (o' : Obj) : Below B w (W.putObj l o') :=
  h.grown (grownBy_putObj' W l o') (by have := (Array.getElem?_eq_some_iff.1 hk).1; omega) (fun k e => by cases e; exact hl)
theorem wideF (f : Nat) : Fence.wide.fn f := trivial
/-- A plain contract, inside the wide fence and in a round. -/
theorem wideIn {n : Nat} {P : Program} {f : FuncId} {args : Array Value} {w : World} {R : Ending → World → Prop} (l : Nat) (h : Calls P f args w R) : CallsIn (Fence.wide.inRound l) n P f args w R := CallsIn.inRound l (callsIn_wide.2 h)

theorem boxC {C : Nat → Nat → Obj → Prop} {B : Nat} {β : Type} (hC : ∀ n r o, ¬ C n r o) (b : Nat) (t : TypeId) (f : β → Value) : AbidesC (BearC C B) (fun s W => Boxed W b t (f s)) :=
  AbidesC.boxed b t f (fun v h => by rcases h with h | h; exact hC _ _ _ h; cases h.2)
theorem bearBelow {C : Nat → Nat → Obj → Prop} {B : Nat} {β : Type} (hC : ∀ n r o, ¬ C n r o) {n₀ : Nat} {w₀ : World} (hn : n₀ ≤ w₀.heap.size) (hB : n₀ ≤ B) : AbidesC (BearC C B) (fun (_ : β) W => Below n₀ w₀ W) :=
  AbidesC.below (fun r o h => by rcases h with h | h; exact absurd h (hC _ _ _); omega) hn

set_option maxRecDepth 100000 in
set_option maxHeartbeats 8000000 in
theorem rights_last.in_ (A0 : Option Addr) (c0 : Nat) (zs : List S40) (kind item region none_ : Int) (w : World) (hr0 : Kd.C k40 w A0 zs.length zs) :
    CallsIn Fence.wide 10 Tryz.prog 53 #[.slice A0 zs.length c0, .int .i64 kind, .int .i64 item, .int .i64 region, .int .i64 none_] w fun e w' => e = .returned (.int .i64 (lastOf zs kind item region none_)) ∧ Below w.heap.size w w' := by
  have hA : ∀ r, inArr A0 zs.length r → r < w.heap.size := fun r h => inArr_lt hr0 h
  refine callsIn_of_wp_marks Tryz.func53 rfl (wideF 53) ?_ rfl
  simp only [Tryz.ntmps53, List.size_toArray, List.length_cons, List.length_nil, Nat.reduceAdd, Nat.reduceSub, Array.replicate_succ, Array.replicate_zero, List.push_toArray, List.append_toArray, List.nil_append, List.cons_append]
  have w47 := wideF 47
  have w43 := wideF 43
  have w24 := wideF 24
  have hu40 := Tryz.underlying40
  gi_wp2_with (gi_at_call 47; refine (back_calls Fence.wide _ wideF rfl _ _ _ _).mono ?_; rintro e w' ⟨rfl, rfl⟩)
  have b0 := (((((Boxed.new w 3 (.int .i64 kind)).alloc (.cells #[.int .i64 item] 3)).alloc (.cells #[.int .i64 region] 3)).alloc (.cells #[.int .i64 0] 3)).alloc (.cells #[.slice A0 zs.length c0] 22))
  have b1 := ((((Boxed.new (w.alloc (.cells #[.int .i64 kind] 3)) 3 (.int .i64 item)).alloc (.cells #[.int .i64 region] 3)).alloc (.cells #[.int .i64 0] 3)).alloc (.cells #[.slice A0 zs.length c0] 22))
  have b2 := (((Boxed.new ((w.alloc (.cells #[.int .i64 kind] 3)).alloc (.cells #[.int .i64 item] 3)) 3 (.int .i64 region)).alloc (.cells #[.int .i64 0] 3)).alloc (.cells #[.slice A0 zs.length c0] 22))
  have b3 := ((Boxed.new (((w.alloc (.cells #[.int .i64 kind] 3)).alloc (.cells #[.int .i64 item] 3)).alloc (.cells #[.int .i64 region] 3)) 3 (.int .i64 0)).alloc (.cells #[.slice A0 zs.length c0] 22))
  have b4 := Boxed.new ((((w.alloc (.cells #[.int .i64 kind] 3)).alloc (.cells #[.int .i64 item] 3)).alloc (.cells #[.int .i64 region] 3)).alloc (.cells #[.int .i64 0] 3)) 22 (.slice A0 zs.length c0)
  have hB0 : Below w.heap.size w (((((w.alloc (.cells #[.int .i64 kind] 3)).alloc (.cells #[.int .i64 item] 3)).alloc (.cells #[.int .i64 region] 3)).alloc (.cells #[.int .i64 0] 3)).alloc (.cells #[.slice A0 zs.length c0] 22)) := below_alloc (below_alloc (below_alloc (below_alloc (below_alloc (Below.refl _ _) _) _) _) _) _
  have hsz : (((((w.alloc (.cells #[.int .i64 kind] 3)).alloc (.cells #[.int .i64 item] 3)).alloc (.cells #[.int .i64 region] 3)).alloc (.cells #[.int .i64 0] 3)).alloc (.cells #[.slice A0 zs.length c0] 22)).heap.size = w.heap.size + 1 + 1 + 1 + 1 + 1 := by simp
  simp only [World.size_alloc] at b0 b1 b2 b3 b4
  revert b0 b1 b2 b3 b4 hB0 hsz
  generalize (((((w.alloc (.cells #[.int .i64 kind] 3)).alloc (.cells #[.int .i64 item] 3)).alloc (.cells #[.int .i64 region] 3)).alloc (.cells #[.int .i64 0] 3)).alloc (.cells #[.slice A0 zs.length c0] 22)) = W0
  intro b0 hB0 hsz b1 b2 b3 b4
  refine wpIn_rangeC rfl (by decide) (gf := 97) (lb := #[.pointer (some ⟨w.heap.size + 1 + 1 + 1 + 1, 0, none⟩)]) rfl (wideF 97) (enters_of Tryz.func97 (by kernel_rfl) rfl)
    (back_stops Fence.wide 9 wideF rfl (by decide) (w.heap.size + 1 + 1 + 1 + 1) A0 c0 zs W0 b4.cell (Kd.C_below hr0 hB0)) (fun _ _ h _ => h.elim)
    (fun h k => h.trans k) (fun W l o o' hl _ _ _ => KeepSet.putObj W l o' (by
      rintro (h | h)
      · omega
      · have := hA l h; omega)) (Below.refl _ _) (fun _ => rfl)
    (fun pre W => ((∀ p ∈ pre, hit kind item region p.2 = false) ∧ Boxed W w.heap.size 3 (.int .i64 kind) ∧ Boxed W (w.heap.size + 1) 3 (.int .i64 item) ∧ Boxed W (w.heap.size + 1 + 1) 3 (.int .i64 region) ∧ Boxed W (w.heap.size + 1 + 1 + 1) 3 (.int .i64 0) ∧ Boxed W (w.heap.size + 1 + 1 + 1 + 1) 22 (.slice A0 zs.length c0)) ∧ Below w.heap.size w W)
    (fun c pre W => (c = .ret ∧ ∃ ini last, pre = ini ++ [last] ∧ (∀ p ∈ ini, hit kind item region p.2 = false) ∧ hit kind item region last.2 = true ∧ Boxed W (w.heap.size + 1 + 1 + 1) 3 (.int .i64 last.2.f5)) ∧ Below w.heap.size w W)
    ?hI ?hIx ⟨⟨by simp, b0, b1, b2, b3, b4⟩, hB0⟩ (fun _ _ => False) ?hfun (fun _ _ _ => trivial)
    (fun x a' W => ∃ Bx, w.heap.size + 1 + 1 + 1 + 1 < Bx ∧ W.heap[Bx]? = some (.cells #[.int .i64 x.2.f0, .int .i64 x.2.f1, .int .i64 x.2.f2, .int .i64 x.2.f3, .int .i64 x.2.f4, .int .i64 x.2.f5, .int .i64 x.2.f6, .int .i64 x.2.f7] 40 (0, 0)) ∧
      a' = { tmps := #[.slice A0 zs.length c0, .int .i64 kind, .int .i64 item, .int .i64 region, .int .i64 none_, undef, .pointer (some ⟨w.heap.size, 0, none⟩), .pointer (some ⟨w.heap.size + 1, 0, none⟩), .pointer (some ⟨w.heap.size + 1 + 1, 0, none⟩), undef, .pointer (some ⟨w.heap.size + 1 + 1 + 1, 0, none⟩), undef, .pointer (some ⟨Bx, 0, none⟩), .slice A0 zs.length c0, .func (.func 97) #[] #[.pointer (some ⟨w.heap.size + 1 + 1 + 1 + 1, 0, none⟩)], .int .i64 (x.1 : Nat), .agg #[.int .i64 x.2.f0, .int .i64 x.2.f1, .int .i64 x.2.f2, .int .i64 x.2.f3, .int .i64 x.2.f4, .int .i64 x.2.f5, .int .i64 x.2.f6, .int .i64 x.2.f7], undef, undef, undef, undef, undef, undef, undef, undef, undef, undef, undef, undef, undef, undef, undef, undef, undef], defers := [] })
    ?hAx ?assign ?body ?done ?stop ?pan
  case hI =>
    refine AbidesC.and ?_ (bearBelow (fun _ _ _ h => h) (Nat.le_refl _) (by omega))
    intro s X Y row hs hg hr
    exact ⟨hs.1, boxC (fun _ _ _ h => h) _ _ (fun _ : Unit => _) () X Y row hs.2.1 hg hr, boxC (fun _ _ _ h => h) _ _ (fun _ : Unit => _) () X Y row hs.2.2.1 hg hr, boxC (fun _ _ _ h => h) _ _ (fun _ : Unit => _) () X Y row hs.2.2.2.1 hg hr, boxC (fun _ _ _ h => h) _ _ (fun _ : Unit => _) () X Y row hs.2.2.2.2.1 hg hr, boxC (fun _ _ _ h => h) _ _ (fun _ : Unit => _) () X Y row hs.2.2.2.2.2 hg hr⟩
  case hIx =>
    intro c
    refine AbidesC.and ?_ (bearBelow (fun _ _ _ h => h) (Nat.le_refl _) (by omega))
    rintro s X Y row ⟨hc, ini, last, e1, e2, e3, e4⟩ hg hr
    exact ⟨hc, ini, last, e1, e2, e3, boxC (fun _ _ _ h => h) _ _ (fun _ : Unit => _) () X Y row e4 hg hr⟩
  case hfun => exact fun _ _ h => h.elim
  case hAx =>
    intro x a'
    rintro s X Y row ⟨Bx, h1, h2, h3⟩ hg hr
    refine ⟨Bx, h1, (hg.block Bx (Array.getElem?_eq_some_iff.1 h2).1 (fun e => ?_)).trans h2, h3⟩
    obtain ⟨_, o, ho, hc⟩ := hr Bx e.symm
    rw [h2] at ho; cases ho; cases hc
  case assign =>
    intro l pre x W K hi hK
    simp only [agg40]
    gi_wp2
    obtain ⟨⟨hp, d0, d1, d2, d3, d4⟩, hBw⟩ := hi
    exact hK _ _ ((KeepsOthers.alloc _ _).from _) (KeepSet.alloc _ (by
      rintro r (h | h)
      · have := d4.lt; omega
      · have := hA r h; have := hBw.size; omega)) ⟨⟨hp, d0.alloc _, d1.alloc _, d2.alloc _, d3.alloc _, d4.alloc _⟩, below_alloc hBw _⟩ ⟨W.heap.size, d4.lt, World.alloc_heap_new W _, rfl⟩
  case body =>
    rintro l pre ⟨j, y⟩ a' W hl ⟨rc, hrc⟩ ⟨⟨hp, d0, d1, d2, d3, d4⟩, hBw⟩ ⟨Bx, hBx, hX, rfl⟩ hlt _
    clear hrc
    simp only at hX ⊢
    have k0 := d0.cell
    have k1 := d1.cell
    have k2 := d2.cell
    have k3 := d3.cell
    have f3 := d3.frozen
    have x0 : W.cell? ⟨Bx, 0, none⟩ = some (.int .i64 y.f0) := (blk_cell hX 0).trans rfl
    have x1 : W.cell? ⟨Bx, 1, none⟩ = some (.int .i64 y.f1) := (blk_cell hX 1).trans rfl
    have x2 : W.cell? ⟨Bx, 2, none⟩ = some (.int .i64 y.f2) := (blk_cell hX 2).trans rfl
    have x3 : W.cell? ⟨Bx, 3, none⟩ = some (.int .i64 y.f3) := (blk_cell hX 3).trans rfl
    have x4 : W.cell? ⟨Bx, 4, none⟩ = some (.int .i64 y.f4) := (blk_cell hX 4).trans rfl
    have x5 : W.cell? ⟨Bx, 5, none⟩ = some (.int .i64 y.f5) := (blk_cell hX 5).trans rfl
    have x6 : W.cell? ⟨Bx, 6, none⟩ = some (.int .i64 y.f6) := (blk_cell hX 6).trans rfl
    have x7 : W.cell? ⟨Bx, 7, none⟩ = some (.int .i64 y.f7) := (blk_cell hX 7).trans rfl
    have hS : ∀ r, (r = w.heap.size + 1 + 1 + 1 + 1 ∨ inArr A0 zs.length r) → r < W.heap.size := by
      rintro r (h | h)
      · have := d4.lt; omega
      · have := hA r h; have := hBw.size; omega
    have goon : ∀ w', Below W.heap.size W w' → hit kind item region y = false → KeepsFrom W0.heap.size W w' ∧ KeepSet (fun r => r = w.heap.size + 1 + 1 + 1 + 1 ∨ inArr A0 zs.length r) W w' ∧
        ((∀ p ∈ pre ++ [(j, y)], hit kind item region p.2 = false) ∧ Boxed w' w.heap.size 3 (.int .i64 kind) ∧ Boxed w' (w.heap.size + 1) 3 (.int .i64 item) ∧ Boxed w' (w.heap.size + 1 + 1) 3 (.int .i64 region) ∧ Boxed w' (w.heap.size + 1 + 1 + 1) 3 (.int .i64 0) ∧ Boxed w' (w.heap.size + 1 + 1 + 1 + 1) 22 (.slice A0 zs.length c0)) ∧ Below w.heap.size w w' := by
      intro w' hb hh
      refine ⟨keepsFrom_below hb, KeepSet.below hb hS, ⟨fun p hp' => ?_, boxed_below d0 hb, boxed_below d1 hb, boxed_below d2 hb, boxed_below d3 hb, boxed_below d4 hb⟩, below_trans' hBw hb⟩
      rcases List.mem_append.1 hp' with h | h
      · exact hp p h
      · simp at h; subst h; exact hh
    have G := Lib.hid goon
    clear goon
    by_cases hk : y.f0 = kind
    · have hk' : (y.f0 == kind) = true := beq_iff_eq.2 hk
      clear hk
      by_cases hc : conc y item region = true
      · by_cases hv : vld y = true
        · have hh : Hid (hit kind item region y = true) := Lib.hid (by unfold hit; rw [hk', hc, hv]; rfl)
          have vf := valid_f 0 y
          rw [hv] at vf
          have cf := concerns_f y item region
          rw [hc] at cf
          clear hc hv
          gi_wp2_with (first
            | (gi_at_call 43; refine (wideIn l (rights_concerns.calls y.f0 y.f1 y.f2 y.f3 y.f4 y.f5 y.f6 y.f7 item region _ _ cf)).mono ?_; rintro e w1 ⟨rfl, hb⟩; have z0 := pw_cell_below hb x0; have z1 := pw_cell_below hb x1; have z2 := pw_cell_below hb x2; have z3 := pw_cell_below hb x3; have z4 := pw_cell_below hb x4; have z5 := pw_cell_below hb x5; have z6 := pw_cell_below hb x6; have z7 := pw_cell_below hb x7)
            | (gi_at_call 24; refine (wideIn l (rights_Valid.calls _ y.f0 y.f1 y.f2 y.f3 y.f4 y.f5 y.f6 y.f7 _ _ vf)).mono ?_; rintro e w2 ⟨rfl, hb2⟩; have u5 := pw_cell_below hb2 z5; have b3' := boxed_below (boxed_below d3 hb) hb2; have u3 := b3'.cell; have uf := b3'.frozen))
          refine ⟨keepsFrom_trans (keepsFrom_below (below_step hb hb2)) ((KeepsOthers.setCell _ _ _).from _), (KeepSet.below (below_step hb hb2) hS).trans (KeepSet.setCell _ _ _ (by
            rintro (h | h)
            · have h' : w.heap.size + 1 + 1 + 1 = w.heap.size + 1 + 1 + 1 + 1 := h
              omega
            · have h' : w.heap.size + 1 + 1 + 1 < w.heap.size := hA _ h
              omega)), ⟨rfl, pre, (j, y), rfl, hp, hh.out, b3'.set _⟩, below_set (below_trans' (below_trans' hBw hb) hb2) (by omega)⟩
        · rw [Bool.not_eq_true] at hv
          have hh : Hid (hit kind item region y = false) := Lib.hid (by unfold hit; rw [hk', hc, hv]; rfl)
          have vf := valid_f 0 y
          rw [hv] at vf
          have cf := concerns_f y item region
          rw [hc] at cf
          clear hc hv
          gi_wp2_with (first
            | (gi_at_call 43; refine (wideIn l (rights_concerns.calls y.f0 y.f1 y.f2 y.f3 y.f4 y.f5 y.f6 y.f7 item region _ _ cf)).mono ?_; rintro e w1 ⟨rfl, hb⟩; have z0 := pw_cell_below hb x0; have z1 := pw_cell_below hb x1; have z2 := pw_cell_below hb x2; have z3 := pw_cell_below hb x3; have z4 := pw_cell_below hb x4; have z5 := pw_cell_below hb x5; have z6 := pw_cell_below hb x6; have z7 := pw_cell_below hb x7)
            | (gi_at_call 24; refine (wideIn l (rights_Valid.calls _ y.f0 y.f1 y.f2 y.f3 y.f4 y.f5 y.f6 y.f7 _ _ vf)).mono ?_; rintro e w2 ⟨rfl, hb2⟩))
          exact G.out _ (below_step hb hb2) hh.out
      · rw [Bool.not_eq_true] at hc
        have hh : Hid (hit kind item region y = false) := Lib.hid (by unfold hit; rw [hk', hc]; rfl)
        have cf := concerns_f y item region
        rw [hc] at cf
        clear hc
        gi_wp2_with (first
          | (gi_at_call 43; refine (wideIn l (rights_concerns.calls y.f0 y.f1 y.f2 y.f3 y.f4 y.f5 y.f6 y.f7 item region _ _ cf)).mono ?_; rintro e w1 ⟨rfl, hb⟩; have z0 := pw_cell_below hb x0; have z1 := pw_cell_below hb x1; have z2 := pw_cell_below hb x2; have z3 := pw_cell_below hb x3; have z4 := pw_cell_below hb x4; have z5 := pw_cell_below hb x5; have z6 := pw_cell_below hb x6; have z7 := pw_cell_below hb x7))
        exact G.out _ (by assumption) hh.out
    · have hk' : (y.f0 == kind) = false := beq_eq_false_iff_ne.2 hk
      have hh : Hid (hit kind item region y = false) := Lib.hid (by unfold hit; rw [hk']; rfl)
      clear hk
      gi_wp2
      exact G.out _ (Below.refl _ _) hh.out
  case done =>
    rintro D ys W hD rfl ⟨⟨hp, d0, d1, d2, d3, d4⟩, hBw⟩ hK
    have k3 := d3.cell
    have f3 := d3.frozen
    have hno : Hid (lastOf zs kind item region none_ = none_) := Lib.hid (by
      unfold lastOf
      rw [List.find?_eq_none.2 (fun p hp' => by rw [hp p hp']; simp)])
    gi_wp2
    have hK' := (KeepsOthers.setCell W ⟨w.heap.size + 1 + 1 + 1, 0, none⟩ (.int .i64 none_)).same D _ hK rfl
    refine ⟨by simp, .inl ⟨_, _, rfl, run_takeDeferred hK', ?_⟩⟩
    have hc5 := cell_kept (World.cell?_setCell_same' W ⟨w.heap.size + 1 + 1 + 1, 0, none⟩ (.int .i64 none_) (by rw [k3]; rfl)) (grownBy_putObj' _ D (.deferred none)) (fun r e => by cases e; exact ⟨_, hK', rfl⟩)
    refine ⟨.int .i64 none_, ?_, by rw [hno.out], below_putObj (below_set hBw (by omega)) (by omega) hK' _⟩
    simp [results, Tryz.f53, go_sem, hc5]
  case stop =>
    rintro D c pre W hD ⟨k, hk, rfl⟩ ⟨⟨rfl, ini, last, e1, e2, e3, d3⟩, hBw⟩ hK
    have hyes : Hid (lastOf zs kind item region none_ = last.2.f5) := Lib.hid (by
      unfold lastOf
      rw [find_prefix (downto zs zs.length) (downto zs k) (downto_prefix zs hk) ini last e1 (fun p hp => e2 p hp) e3])
    gi_wp2
    refine ⟨by simp, .inl ⟨_, _, rfl, run_takeDeferred hK, ?_⟩⟩
    have hc5 := cell_kept d3.cell (grownBy_putObj' _ D (.deferred none)) (fun r e => by cases e; exact ⟨_, hK, rfl⟩)
    refine ⟨.int .i64 last.2.f5, ?_, by rw [hyes.out], below_putObj hBw (by omega) hK _⟩
    simp [results, Tryz.f53, go_sem, hc5]
  case pan => exact fun _ _ _ _ h _ => h.elim

/-- rights.last, in the printed form: what it answers, for every slice of clauses. -/
def rights_last.f (zs : List S40) (kind item region none_ : Int) : Option Int := some (lastOf zs kind item region none_)
theorem rights_last.calls (A0 : Option Addr) (c0 : Nat) (l0 : List S40) (a1 a2 a3 a4 : Int) (r : Int) (w : World) (hr0 : Kd.C k40 w A0 l0.length l0) (_hc0 : l0.length ≤ c0) (h : rights_last.f l0 a1 a2 a3 a4 = some r) :
    Calls Tryz.prog 53 #[.slice A0 l0.length c0, .int .i64 a1, .int .i64 a2, .int .i64 a3, .int .i64 a4] w fun e w' => e = .returned (.int .i64 r) ∧ Below w.heap.size w w' := by
  obtain rfl : lastOf l0 a1 a2 a3 a4 = r := Option.some.inj h
  exact callsIn_wide.1 (rights_last.in_ A0 c0 l0 a1 a2 a3 a4 w hr0)
end Go.Proofs.YtpefhdjkpdjdpaaGreatDoor.R
namespace Go.Proofs.YtpefhdjkpdjdpaaGreatDoor.R
open Go Go.RowKit Go.Proofs.YtpefhdjkpdjdpaaGreatDoorW.PrintWords Go.Proofs.YtpefhdjkpdjdpaaGreatDoorW.PrintLast Go.Proofs.YtpefhdjkpdjdpaaGreatDoorW.PrintMore
/-- A line that is ignored. -/
def skipped : List UInt8 → Bool
  | [] => true
  | b :: _ => b == 35
/-- The lines that are not ignored, with their numbers; n lines came before. -/
def linesGo : Nat → List (List UInt8) → List (Nat × List UInt8)
  | _, [] => []
  | n, p :: ps => if skipped p then linesGo (n + 1) ps else (n + 1, p) :: linesGo (n + 1) ps
theorem linesGo_append : ∀ (a b : List (List UInt8)) (n : Nat), linesGo n (a ++ b) = linesGo n a ++ linesGo (n + a.length) b
  | [], b, n => by simp [linesGo]
  | p :: ps, b, n => by
    have := linesGo_append ps b (n + 1)
    rw [List.cons_append]
    conv => lhs; unfold linesGo
    conv => rhs; lhs; unfold linesGo
    rw [this, List.length_cons, show n + 1 + ps.length = n + (ps.length + 1) by omega]
    split <;> rfl
/-- What lies from n on, and is no clause's row, stays. -/
def KeepN (n : Nat) : World → World → Prop := KeepX fun r => n ≤ r
theorem KeepN.keepsFrom {n B : Nat} {A A' : World} (h : KeepN n A A') (hB : n ≤ B) : KeepsFrom B A A' := ⟨h.1, fun k _ h1 h2 h3 => h.2 k _ (by omega) h2 (not40_other h3)⟩
theorem KeepN.boxed {n B : Nat} {A A' : World} {t : TypeId} {v : Value} (h : KeepN n A A') (hB : n ≤ B) (ht : t ≠ 40) (hb : Boxed A B t v) : Boxed A' B t v := h.2 B _ hB hb (not40_box ht)
theorem KeepN.toX {n : Nat} {S : Nat → Prop} {A B : World} (h : KeepN n A B) (hS : ∀ r, S r → n ≤ r) : KeepX S A B := ⟨h.1, fun r _ h1 => h.2 r _ (hS r h1)⟩
theorem roundIn_wide {n m : Nat} {P : Program} {l l' : Nat} {f : FuncId} {tmps : Array Value} {assign body : Code} {w : World} {R : Ending → World → Prop} (h : RoundIn Fence.wide n P l f tmps assign body w R) : RoundIn (Fence.wide.inRound l') m P l f tmps assign body w R :=
  ⟨trivial, fun c cs _ => h.2 c cs (room_wide _)⟩

theorem tx_toList (l : List UInt8) : (tx l).toList = l := by rw [Lib.toList_data, tx_data]
theorem tx_atb (b : UInt8) (r : List UInt8) (h : 0 < (tx (b :: r)).size) : (tx (b :: r))[0]'h = b := rfl
attribute [local go_sem] Oper.semAt_some tx_toList tx_atb
set_option maxRecDepth 100000 in
set_option maxHeartbeats 8000000 in
theorem lines1_in (l Bt : Nat) (s0 : List UInt8) (hs0 : s0.length ≤ 1000000) (n0 : Nat)
    (J Jx : List (Nat × List UInt8) → World → Prop)
    (W : World) (hn0 : n0 ≤ W.heap.size) (hJ : AbidesC (fun r o => W.heap.size ≤ r ∧ not40 o) J) (hJx : AbidesC (fun r o => W.heap.size ≤ r ∧ not40 o) Jx)
    (hY : ∀ pre x W1, J pre W1 → pre.length < (linesGo 0 (pieces 10 s0)).length → (∃ t, (pre ++ [x]) ++ t = linesGo 0 (pieces 10 s0)) → YieldAt Fence.wide 9 Tryz.prog l #[.int .i64 (x.1 : Nat), .string (tx x.2)] W1 fun e W' =>
      (e = .returned (.bool true) ∧ J (pre ++ [x]) W' ∧ KeepN n0 W1 W') ∨ (e = .returned (.bool false) ∧ Jx (pre ++ [x]) W' ∧ KeepN n0 W1 W'))
    (kt : W.cell? ⟨Bt, 0, none⟩ = some (.string (tx s0))) (h0 : J [] W) :
    CallsIn Fence.wide 10 Tryz.prog 90 #[.func (.yield l) #[] #[], .pointer (some ⟨Bt, 0, none⟩)] W fun e W' =>
      ∃ v, e = .returned v ∧ ((∃ ys, ys = linesGo 0 (pieces 10 s0) ∧ J ys W') ∨ (∃ pre, (∃ t, pre ++ t = linesGo 0 (pieces 10 s0)) ∧ Jx pre W')) := by
  refine callsIn_of_wp_marks Tryz.func90 rfl (wideF 90) ?_ rfl
  simp only [Tryz.ntmps90, List.size_toArray, List.length_cons, List.length_nil, Nat.reduceAdd, Nat.reduceSub, Array.replicate_succ, Array.replicate_zero, List.push_toArray, List.append_toArray, List.nil_append, List.cons_append]
  have w91 := wideF 91
  have kt2 : ((W.alloc (.cells #[.func (.yield l) #[] #[]] 159)).alloc (.cells #[.int .i64 0] 3)).cell? ⟨Bt, 0, none⟩ = some (.string (tx s0)) := pw_cell_below (below_alloc (below_alloc (Below.refl _ _) _) _) kt
  gi_wp2_with (gi_at_call 91; refine (splitSeq_in Fence.wide _ (by decide) (wideF 91) (wideF 136) rfl _ _ _).mono ?_; rintro e w2 ⟨rfl, rfl⟩)
  have b0 := ((((Boxed.new W 159 (.func (.yield l) #[] #[])).alloc (.cells #[.int .i64 0] 3)).alloc (.cells #[.string (tx s0)] 9)).alloc (.cells #[.string ⟨#[10]⟩] 9)).alloc (.cells #[.int .i64 0] 3)
  have b1 := (((Boxed.new (W.alloc (.cells #[.func (.yield l) #[] #[]] 159)) 3 (.int .i64 0)).alloc (.cells #[.string (tx s0)] 9)).alloc (.cells #[.string ⟨#[10]⟩] 9)).alloc (.cells #[.int .i64 0] 3)
  have b2 := ((Boxed.new ((W.alloc (.cells #[.func (.yield l) #[] #[]] 159)).alloc (.cells #[.int .i64 0] 3)) 9 (.string (tx s0))).alloc (.cells #[.string ⟨#[10]⟩] 9)).alloc (.cells #[.int .i64 0] 3)
  have b3 := (Boxed.new (((W.alloc (.cells #[.func (.yield l) #[] #[]] 159)).alloc (.cells #[.int .i64 0] 3)).alloc (.cells #[.string (tx s0)] 9)) 9 (.string ⟨#[10]⟩)).alloc (.cells #[.int .i64 0] 3)
  have b4 := Boxed.new ((((W.alloc (.cells #[.func (.yield l) #[] #[]] 159)).alloc (.cells #[.int .i64 0] 3)).alloc (.cells #[.string (tx s0)] 9)).alloc (.cells #[.string ⟨#[10]⟩] 9)) 3 (.int .i64 0)
  have hJ0 : J [] (((((W.alloc (.cells #[.func (.yield l) #[] #[]] 159)).alloc (.cells #[.int .i64 0] 3)).alloc (.cells #[.string (tx s0)] 9)).alloc (.cells #[.string ⟨#[10]⟩] 9)).alloc (.cells #[.int .i64 0] 3)) := hJ.alloc _ (hJ.alloc _ (hJ.alloc _ (hJ.alloc _ (hJ.alloc _ h0))))
  have hsz : (((((W.alloc (.cells #[.func (.yield l) #[] #[]] 159)).alloc (.cells #[.int .i64 0] 3)).alloc (.cells #[.string (tx s0)] 9)).alloc (.cells #[.string ⟨#[10]⟩] 9)).alloc (.cells #[.int .i64 0] 3)).heap.size = W.heap.size + 1 + 1 + 1 + 1 + 1 := by simp
  simp only [World.size_alloc] at b0 b1 b2 b3 b4
  revert b0 b1 b2 b3 b4 hJ0 hsz
  generalize (((((W.alloc (.cells #[.func (.yield l) #[] #[]] 159)).alloc (.cells #[.int .i64 0] 3)).alloc (.cells #[.string (tx s0)] 9)).alloc (.cells #[.string ⟨#[10]⟩] 9)).alloc (.cells #[.int .i64 0] 3)) = W0
  intro b0 hJ0 hsz b1 b2 b3 b4
  have hplen := pieces_len 10 s0
  have hrow2 : ∀ {X : World} {row : Option Nat}, (∀ k, row = some k → ∃ o : Obj, X.heap[k]? = some o ∧ BearC (fun _ r o => r = W.heap.size + 1 + 1 ∧ ∃ v, o = .cells #[v] 9 (0, 0)) W0.heap.size k o) → ∀ k, row = some k → ∃ o : Obj, X.heap[k]? = some o ∧ W.heap.size ≤ k ∧ not40 o := by
    intro X row hr' k hk
    obtain ⟨o, ho, h | ⟨h, h2⟩⟩ := hr' k hk
    · obtain ⟨rfl, v, rfl⟩ := h
      exact ⟨_, ho, by omega, not40_box (by decide)⟩
    · exact ⟨o, ho, by omega, not40_other h2⟩
  refine wpIn_rangeC rfl (by decide) (gf := 175) (lb := #[.pointer (some ⟨W.heap.size + 1 + 1 + 1, 0, none⟩), .pointer (some ⟨W.heap.size + 1 + 1, 0, none⟩), .pointer (some ⟨W.heap.size + 1 + 1 + 1 + 1, 0, none⟩)]) rfl (wideF 175) (enters_of Tryz.func175 (by kernel_rfl) rfl)
    (split_stops Fence.wide 9 (by decide) (wideF 175) (wideF 177) (wideF 220) (wideF 246) (wideF 272) rfl (W.heap.size + 1 + 1) 10 s0 hs0 W0 b2 b3 b4) (fun r o h hc => by obtain ⟨_, v, rfl⟩ := h; cases hc)
    (fun h k => h.trans k) (fun W' l' o o' hl _ _ _ => (KeepSet.putObj W' l' o' (by unfold splSet; omega)).toX) (Below.refl _ _) (fun _ => rfl)
    (fun pre W' => Boxed W' W.heap.size 159 (.func (.yield l) #[] #[]) ∧ Boxed W' (W.heap.size + 1) 3 (.int .i64 (pre.length : Int)) ∧ J (linesGo 0 pre) W')
    (fun c pre W' => c = .ret ∧ Jx (linesGo 0 pre) W')
    ?hI ?hIx ⟨b0, b1, hJ0⟩
    (fun _ _ => False) (fun _ _ h => h.elim) (fun _ _ h => h.elim)
    (fun x a' W' => a' = { tmps := #[.func (.yield l) #[] #[], .pointer (some ⟨Bt, 0, none⟩), .pointer (some ⟨W.heap.size, 0, none⟩), .pointer (some ⟨W.heap.size + 1, 0, none⟩), .string (tx x), .string (tx s0),
      .func (.func 175) #[] #[.pointer (some ⟨W.heap.size + 1 + 1 + 1, 0, none⟩), .pointer (some ⟨W.heap.size + 1 + 1, 0, none⟩), .pointer (some ⟨W.heap.size + 1 + 1 + 1 + 1, 0, none⟩)], .string (tx x), undef, undef, undef, undef, undef, undef, undef, undef, undef, undef, undef, undef, undef, undef], defers := [] })
    ?hAx ?assign ?body ?done ?stop ?pan
  case hI =>
    rintro st X Y row ⟨e1, e2, e3⟩ hg hr'
    have hrow : ∀ k, row = some k → W.heap.size + 1 + 1 ≤ k := by
      intro k hk
      obtain ⟨o, _, h | ⟨h, _⟩⟩ := hr' k hk
      · have := h.1; omega
      · omega
    refine ⟨e1.kept hg (fun e => ?_), e2.kept hg (fun e => ?_), hJ _ X Y row e3 hg (hrow2 hr')⟩
    · have := hrow _ e.symm; omega
    · have := hrow _ e.symm; omega
  case hIx =>
    rintro c st X Y row ⟨e1, e3⟩ hg hr'
    exact ⟨e1, hJx _ X Y row e3 hg (hrow2 hr')⟩
  case hAx => exact fun x a' s X Y row h _ _ => h
  case assign =>
    intro l' pre x W' K hi' hK
    gi_wp2
    exact hK _ _ (KeepsFrom.refl _ _) (KeepX.refl _ _) hi' rfl
  case body =>
    rintro l' pre x a' W' hl ⟨rc, hrc⟩ ⟨e1, e2, e3⟩ rfl hlt hsp
    clear hrc
    have k1 := e1.cell
    have k2 := e2.cell
    have f2 := e2.frozen
    obtain ⟨z, hz⟩ : ∃ z : Int, ((pre.length + 1 : Nat) : Int) = z := ⟨_, rfl⟩
    have hw : wrap64 ((pre.length : Int) + 1) = z := by rw [← hz]; unfold wrap64; omega
    have hJ1 : J (linesGo 0 pre) (W'.setCell ⟨W.heap.size + 1, 0, none⟩ (.int .i64 z)) := hJ _ W' _ (some (W.heap.size + 1)) e3 (grownBy_setCell' _ _ _) (fun k e => by cases e; exact ⟨_, e2, by omega, not40_box (by decide)⟩)
    have g1 : Boxed (W'.setCell ⟨W.heap.size + 1, 0, none⟩ (.int .i64 z)) (W.heap.size + 1) 3 (.int .i64 z) := e2.set _
    have g0 : Boxed (W'.setCell ⟨W.heap.size + 1, 0, none⟩ (.int .i64 z)) W.heap.size 159 (.func (.yield l) #[] #[]) := e1.other (by omega) _
    have kf1 : KeepsFrom W0.heap.size W' (W'.setCell ⟨W.heap.size + 1, 0, none⟩ (.int .i64 z)) := (KeepsOthers.setCell W' ⟨W.heap.size + 1, 0, none⟩ (.int .i64 z)).from _
    have ks1 : KeepX (splSet (W.heap.size + 1 + 1)) W' (W'.setCell ⟨W.heap.size + 1, 0, none⟩ (.int .i64 z)) := (KeepSet.setCell W' ⟨W.heap.size + 1, 0, none⟩ _ (by show ¬ splSet (W.heap.size + 1 + 1) (W.heap.size + 1); unfold splSet; omega)).toX
    have hl1 : (((pre ++ [x]).length : Nat) : Int) = z := by rw [List.length_append, ← hz]; rfl
    have happ : linesGo 0 (pre ++ [x]) = linesGo 0 pre ++ linesGo (0 + pre.length) [x] := linesGo_append pre [x] 0
    by_cases hsk : skipped x = true
    · have hskip : linesGo 0 (pre ++ [x]) = linesGo 0 pre := by
        rw [happ]
        unfold linesGo
        rw [if_pos hsk]
        unfold linesGo
        exact List.append_nil _
      have fin : ownPostC W0.heap.size (KeepX (splSet (W.heap.size + 1 + 1))) (fun pre W' => Boxed W' W.heap.size 159 (.func (.yield l) #[] #[]) ∧ Boxed W' (W.heap.size + 1) 3 (.int .i64 (pre.length : Int)) ∧ J (linesGo 0 pre) W') (fun c pre W' => c = .ret ∧ Jx (linesGo 0 pre) W') (fun _ _ => False) (pre ++ [x]) W' .normal { tmps := #[], defers := [] } (W'.setCell ⟨W.heap.size + 1, 0, none⟩ (.int .i64 z)) :=
        ⟨kf1, ks1, g0, by rw [hl1]; exact g1, by rw [hskip]; exact hJ1⟩
      have FIN := Lib.hid fin
      clear fin hskip happ hl1 ks1 kf1 g0 hJ1 hlt hsp hz
      match x, hsk with
      | [], _ =>
        gi_wp2
        exact FIN.out
      | b :: r, hsk =>
        have hb35 : ((b.toNat : Int) == 35) = true := by
          have : b = 35 := beq_iff_eq.1 hsk
          subst this
          rfl
        have hsz1 : (0 : Int) < ((tx (b :: r)).size : Int) := by rw [tx_size, List.length_cons]; omega
        clear hsk
        gi_wp2
        exact FIN.out
    · rw [Bool.not_eq_true] at hsk
      have hone : linesGo 0 (pre ++ [x]) = linesGo 0 pre ++ [(pre.length + 1, x)] := by
        rw [happ]
        conv => lhs; rhs; unfold linesGo
        rw [hsk, Nat.zero_add]
        rfl
      obtain ⟨t, ht⟩ := hsp
      have hpre : (linesGo 0 pre ++ [(pre.length + 1, x)]) ++ linesGo (0 + (pre ++ [x]).length) t = linesGo 0 (pieces 10 s0) := by rw [← hone, ← linesGo_append, ht]
      obtain ⟨fn, tmps, assign, body, hy, hR⟩ := hY (linesGo 0 pre) (pre.length + 1, x) _ hJ1 (by rw [← hpre]; simp) ⟨_, hpre⟩
      simp only [hz] at hy hR
      have hgo : ∀ W3, KeepN n0 (W'.setCell ⟨W.heap.size + 1, 0, none⟩ (.int .i64 z)) W3 → KeepsFrom W0.heap.size W' W3 ∧ KeepX (splSet (W.heap.size + 1 + 1)) W' W3 ∧ Boxed W3 W.heap.size 159 (.func (.yield l) #[] #[]) ∧ Boxed W3 (W.heap.size + 1) 3 (.int .i64 z) := fun W3 hk3 =>
        ⟨keepsFrom_trans kf1 (hk3.keepsFrom (by omega)), ks1.trans (hk3.toX (fun r h => by unfold splSet at h; omega)), hk3.boxed (by omega) (by decide) g0, hk3.boxed (by omega) (by decide) g1⟩
      have HGO := Lib.hid hgo
      have HONE := Lib.hid hone
      have HL1 := Lib.hid hl1
      clear hgo hone hl1 hpre ht happ hz hlt hJ1 ks1 kf1
      match x, hsk with
      | b :: r, hsk =>
        have hb35 : ((b.toNat : Int) == 35) = false := by
          apply beq_eq_false_iff_ne.2
          intro e
          have : b = 35 := UInt8.toNat_inj.1 (by simp; omega)
          rw [this] at hsk
          cases hsk
        have hsz1 : (0 : Int) < ((tx (b :: r)).size : Int) := by rw [tx_size, List.length_cons]; omega
        clear hsk
        have k0' := g0.cell
        have k1' := g1.cell
        gi_wp2
        refine (roundIn_wide hR).mono ?_
        rintro e W3 (⟨rfl, hJ3, hk3⟩ | ⟨rfl, hJx3, hk3⟩)
        · gi_wp2
          obtain ⟨m1, m2, m3, m4⟩ := HGO.out W3 hk3
          exact ⟨m1, m2, m3, by rw [HL1.out]; exact m4, by rw [HONE.out]; exact hJ3⟩
        · gi_wp2
          obtain ⟨m1, m2, _, _⟩ := HGO.out W3 hk3
          exact ⟨m1, m2, rfl, by rw [HONE.out]; exact hJx3⟩
  case done =>
    rintro D ys W' hD rfl ⟨e1, e2, e3⟩ hK
    gi_wp2
    refine ⟨by simp, .inl ⟨_, _, rfl, run_takeDeferred hK, ?_⟩⟩
    refine ⟨.tuple #[], ?_, _, rfl, .inl ⟨_, rfl, ?_⟩⟩
    · simp [results, Tryz.f90, go_sem]
    · exact hJ _ _ _ _ e3 (grownBy_putObj' _ D _) (fun k e => by cases e; exact ⟨_, hK, by omega, not40_other rfl⟩)
  case stop =>
    rintro D c pre W' hD ⟨t, ht⟩ ⟨rfl, e3⟩ hK
    gi_wp2
    refine ⟨by simp, .inl ⟨_, _, rfl, run_takeDeferred hK, ?_⟩⟩
    refine ⟨.tuple #[], ?_, _, rfl, .inr ⟨linesGo 0 pre, ⟨linesGo (0 + pre.length) t, ?_⟩, ?_⟩⟩
    · simp [results, Tryz.f90, go_sem]
    · rw [← ht, linesGo_append]
    · exact hJx _ _ _ _ e3 (grownBy_putObj' _ D _) (fun k e => by cases e; exact ⟨_, hK, by omega, not40_other rfl⟩)
  case pan => exact fun _ _ _ _ h _ => h.elim

/-- rights.lines' value as an iterator. -/
theorem lines_stops (B : Nat) (s0 : List UInt8) (hs0 : s0.length ≤ 1000000) (w : World) (hc : w.cell? ⟨B, 0, none⟩ = some (.string (tx s0))) :
    SeqC False Fence.wide 10 Tryz.prog 90 #[.pointer (some ⟨B, 0, none⟩)] (fun x : Nat × List UInt8 => #[.int .i64 (x.1 : Nat), .string (tx x.2)]) (fun n r o => n ≤ r ∧ not40 o) (KeepN (w.heap.size + 2)) (fun ys => ys = linesGo 0 (pieces 10 s0)) (fun pre => ∃ t, pre ++ t = linesGo 0 (pieces 10 s0)) (linesGo 0 (pieces 10 s0)).length w := by
  intro l J Jx Jp W hW hsz hJ hJx hjp hY h0
  refine (lines1_in l B s0 hs0 (w.heap.size + 2) J Jx W hsz hJ hJx (fun pre x W1 h1 h2 h3 => (hY pre x W1 h1 h2 h3).mono ?_) (pw_cell_below hW hc) h0).mono ?_
  · rintro e w' (h | h | ⟨ch, _, h⟩)
    · exact .inl h
    · exact .inr h
    · exact (hjp ch w' h).elim
  · exact fun e w' h => .inl h

set_option maxRecDepth 100000 in
theorem lines_calls (s : ByteArray) (w : World) :
    Calls Tryz.prog 41 #[.string s] w fun e w' => e = .returned (.func (.func 90) #[] #[.pointer (some ⟨w.heap.size, 0, none⟩)]) ∧ w' = w.alloc (.cells #[.string s] 9) := by
  have hmf : ∀ (fn : Fn) (first cap : Array Value) (w : World), (Instr.makeFunc fn first cap).run Tryz.prog w = .ok (.func fn first cap) w := fun _ _ _ _ => rfl
  go_enter Tryz.func41, Tryz.ntmps41
  go_wp2
  go_ret
  exact ⟨rfl, rfl⟩
end Go.Proofs.YtpefhdjkpdjdpaaGreatDoor.R
namespace Go.Proofs.YtpefhdjkpdjdpaaGreatDoor.R
open Go Go.RowKit Go.Proofs.YtpefhdjkpdjdpaaGreatDoorW.PrintWords Go.Proofs.YtpefhdjkpdjdpaaGreatDoorW.PrintLast Go.Proofs.YtpefhdjkpdjdpaaGreatDoorW.PrintMore
/-- One piece more: it has to be one digit from 0 to 7. -/
def regStep (o : Option Int) (p : List UInt8) : Option Int := o.bind fun set => match p with
  | [b] => if 48 ≤ b.toNat ∧ b.toNat < 56 then some (Go.bits .or .i64 set (IntKind.i64.wrap (2 ^ min (IntKind.u8.wrap ((b.toNat : Int) - 48)).toNat 64))) else none
  | _ => none
theorem regStep_none (ps : List (List UInt8)) : ps.foldl regStep none = none := by
  induction ps with
  | nil => rfl
  | cons a r ih => exact ih
/-- The set of regions that a word says. -/
def regOf (s : ByteArray) : Option Int := if (s.toList == [97, 108, 108]) = true then some 255 else (pieces 44 s.data.toList).foldl regStep (some 0)
def regFns : List FuncId := [140, 138, 91, 136, 175, 177, 220, 246, 272]
def regF : Fence := Fence.list regFns none
theorem regFun : ∀ fn, regF.fn fn → ∃ f, Tryz.prog.funcs[fn]? = some f := by
  intro fn h
  simp only [regF, regFns, Fence.list, List.mem_cons, List.not_mem_nil, or_false] at h
  rcases h with rfl | rfl | rfl | rfl | rfl | rfl | rfl | rfl | rfl
  · exact ⟨_, Tryz.func140⟩
  · exact ⟨_, Tryz.func138⟩
  · exact ⟨_, Tryz.func91⟩
  · exact ⟨_, Tryz.func136⟩
  · exact ⟨_, Tryz.func175⟩
  · exact ⟨_, Tryz.func177⟩
  · exact ⟨_, Tryz.func220⟩
  · exact ⟨_, Tryz.func246⟩
  · exact ⟨_, Tryz.func272⟩
theorem regFn (f : FuncId) (h : regFns.contains f = true) : regF.fn f := by
  simpa [regF, Fence.list] using h

theorem tx_at0 (b : UInt8) (h : 0 < (tx [b]).size) : (tx [b])[0]'h = b := rfl
theorem keepSet_drew {S : Nat → Prop} {W W' : World} (h : KeepSet S W W') : KeepSet S W W'.drew := h
theorem keepsFrom_drew {B : Nat} {W W' : World} (h : KeepsFrom B W W') : KeepsFrom B W W'.drew := ⟨h.size, h.same⟩
attribute [local go_sem] Oper.semAt_some tx_at0
set_option maxRecDepth 100000 in
set_option maxHeartbeats 8000000 in
theorem regions_in (F : Fence) (n : Nat) (hn : 10 ≤ n) (hro : F.round = none) (hfun : ∀ fn, F.fn fn → ∃ f, Tryz.prog.funcs[fn]? = some f) (w140 : F.fn 140) (w138 : F.fn 138) (w91 : F.fn 91) (w136 : F.fn 136) (w175 : F.fn 175) (w177 : F.fn 177) (w220 : F.fn 220) (w246 : F.fn 246) (w272 : F.fn 272) (A : Option Addr) (c : Nat) (ws : List ByteArray) (i : Int) (w : World) (hr : Kd.string.C w A ws.length ws) (hs : ∀ s ∈ ws, s.size ≤ 1000000) (hi : 0 ≤ i) (hT : TabW w) :
    CallsIn F n Tryz.prog 140 #[.slice A ws.length c, .int .i64 i] w fun e w' => Below w.heap.size w w' ∧ Ans (Value.int .i64) (ws[i.toNat]?.bind regOf) e := by
  have h1 : 1 ≤ n := by omega
  have hwd := word_in F (n - 1) w138 hro A c ws i w hr hi hT
  have hB1 : Below w.heap.size w (w.alloc (.cells #[.int .i64 0] 3)) := below_alloc (Below.refl _ _) _
  have hwd2 := word_in F (n - 1) w138 hro A c ws i _ (Kd.C_below hr hB1) hi (hT.below hB1)
  obtain ⟨te, pe, hg⟩ := hT.word
  cases hw : ws[i.toNat]? with
  | none =>
    rw [hw] at hwd
    refine callsIn_of_wp_marks Tryz.func140 rfl w140 ?_ hro
    simp only [Tryz.ntmps140, List.size_toArray, List.length_cons, List.length_nil, Nat.reduceAdd, Nat.reduceSub, Array.replicate_succ, Array.replicate_zero, List.push_toArray, List.append_toArray, List.nil_append, List.cons_append]
    gi_wp2_with (gi_at_call 138; refine hwd.mono ?_; rintro e w1 ⟨hw1, u, pv, rfl⟩; replace hw1 := hw1.symm; subst hw1)
    exact ⟨Below.refl _ _, u, pv, rfl⟩
  | some s =>
    rw [hw] at hwd hwd2
    have hss := hs s (List.mem_of_getElem? hw)
    rw [Option.bind_some]
    unfold regOf
    by_cases hall : (s.toList == [97, 108, 108]) = true
    · rw [if_pos hall]
      refine callsIn_of_wp_marks Tryz.func140 rfl w140 ?_ hro
      simp only [Tryz.ntmps140, List.size_toArray, List.length_cons, List.length_nil, Nat.reduceAdd, Nat.reduceSub, Array.replicate_succ, Array.replicate_zero, List.push_toArray, List.append_toArray, List.nil_append, List.cons_append]
      gi_wp2_with (gi_at_call 138; refine hwd.mono ?_; rintro e w1 ⟨hw1, rfl⟩; replace hw1 := hw1.symm; subst hw1)
      refine ⟨.int .i64 255, ?_, Below.refl _ _, rfl⟩
      simp [results, Tryz.f140, go_sem]
    · rw [if_neg hall]
      rw [Bool.not_eq_true] at hall
      refine callsIn_of_wp_marks Tryz.func140 rfl w140 ?_ hro
      simp only [Tryz.ntmps140, List.size_toArray, List.length_cons, List.length_nil, Nat.reduceAdd, Nat.reduceSub, Array.replicate_succ, Array.replicate_zero, List.push_toArray, List.append_toArray, List.nil_append, List.cons_append]
      gi_wp2_with (first
        | (gi_at_call 138; (with_reducible refine hwd.mono ?_); rintro e w1 ⟨hw1, rfl⟩; replace hw1 := hw1.symm; subst hw1)
        | (gi_at_call 138; refine hwd2.mono ?_; rintro e w1 ⟨rfl, rfl⟩)
        | (gi_at_call 91; refine (splitSeq_in F _ (by omega) w91 w136 hro _ _ _).mono ?_; rintro e w2 ⟨rfl, rfl⟩))
      have b0 := (((Boxed.new w 3 (.int .i64 0)).alloc (.cells #[.string s] 9)).alloc (.cells #[.string ⟨#[44]⟩] 9)).alloc (.cells #[.int .i64 0] 3)
      have b1 := ((Boxed.new (w.alloc (.cells #[.int .i64 0] 3)) 9 (.string s)).alloc (.cells #[.string ⟨#[44]⟩] 9)).alloc (.cells #[.int .i64 0] 3)
      have b2 := (Boxed.new ((w.alloc (.cells #[.int .i64 0] 3)).alloc (.cells #[.string s] 9)) 9 (.string ⟨#[44]⟩)).alloc (.cells #[.int .i64 0] 3)
      have b3 := Boxed.new (((w.alloc (.cells #[.int .i64 0] 3)).alloc (.cells #[.string s] 9)).alloc (.cells #[.string ⟨#[44]⟩] 9)) 3 (.int .i64 0)
      have hB0 : Below w.heap.size w ((((w.alloc (.cells #[.int .i64 0] 3)).alloc (.cells #[.string s] 9)).alloc (.cells #[.string ⟨#[44]⟩] 9)).alloc (.cells #[.int .i64 0] 3)) := below_alloc (below_alloc (below_alloc (below_alloc (Below.refl _ _) _) _) _) _
      have hsz : ((((w.alloc (.cells #[.int .i64 0] 3)).alloc (.cells #[.string s] 9)).alloc (.cells #[.string ⟨#[44]⟩] 9)).alloc (.cells #[.int .i64 0] 3)).heap.size = w.heap.size + 1 + 1 + 1 + 1 := by simp
      simp only [World.size_alloc] at b0 b1 b2 b3
      revert b0 b1 b2 b3 hB0 hsz
      generalize ((((w.alloc (.cells #[.int .i64 0] 3)).alloc (.cells #[.string s] 9)).alloc (.cells #[.string ⟨#[44]⟩] 9)).alloc (.cells #[.int .i64 0] 3)) = W0
      intro b0 hB0 hsz b1 b2 b3
      have hss' : s.data.toList.length ≤ 1000000 := by rw [Array.length_toList]; exact hss
      refine wpIn_rangeC hro h1 (gf := 175) (lb := #[.pointer (some ⟨w.heap.size + 1 + 1, 0, none⟩), .pointer (some ⟨w.heap.size + 1, 0, none⟩), .pointer (some ⟨w.heap.size + 1 + 1 + 1, 0, none⟩)]) rfl w175 (enters_of Tryz.func175 (by kernel_rfl) rfl)
        (split_stops F (n - 1) (by omega) w175 w177 w220 w246 w272 hro (w.heap.size + 1) 44 s.data.toList hss' W0 (by rw [tx_of]; exact b1) b2 b3) (fun r o h hc => by obtain ⟨_, v, rfl⟩ := h; cases hc)
        (fun h k => h.trans k) (fun W l o o' hl _ _ _ => (KeepSet.putObj W l o' (by unfold splSet; omega)).toX) (Below.refl _ _) (fun _ => rfl)
        (fun pre W => ∃ set, pre.foldl regStep (some 0) = some set ∧ Boxed W w.heap.size 3 (.int .i64 set) ∧ Below w.heap.size w W)
        (fun _ _ _ => False)
        ?hI (fun c s X Y row h => h.elim) ⟨0, rfl, b0, hB0⟩
        (fun ch W => (pieces 44 s.data.toList).foldl regStep (some 0) = none ∧ (∃ u pv, ch = [{ v := .iface u pv, recovered := false }]) ∧ Below w.heap.size w W) (fun ch W _ => hfun) (fun _ _ _ => trivial)
        (fun x a' W => a' = { tmps := #[.slice A ws.length c, .int .i64 i, undef, undef, .int .i64 0, .pointer (some ⟨w.heap.size, 0, none⟩), .string (tx x), .slice A ws.length c, .int .i64 i, .string s, .bool false, .slice A ws.length c, .int .i64 i, .string s,
          .func (.func 175) #[] #[.pointer (some ⟨w.heap.size + 1 + 1, 0, none⟩), .pointer (some ⟨w.heap.size + 1, 0, none⟩), .pointer (some ⟨w.heap.size + 1 + 1 + 1, 0, none⟩)], .string (tx x), undef, undef, undef, undef, undef, undef, undef, undef, undef, undef, undef, undef, undef, undef, undef, undef, undef, undef, undef, undef, undef], defers := [] })
        ?hAx ?assign ?body ?done ?stop ?pan
      case hI =>
        rintro st X Y row ⟨set, e1, e2, e3⟩ hg hr'
        have hrow : ∀ k, row = some k → w.heap.size + 1 ≤ k := by
          intro k hk
          obtain ⟨o, _, h | ⟨h, _⟩⟩ := hr' k hk
          · have := h.1; omega
          · omega
        refine ⟨set, e1, e2.kept hg (fun e => ?_), e3.grown hg e3.size (fun k hk => by have := hrow k hk; omega)⟩
        have := hrow _ e.symm
        omega
      case hAx => exact fun x a' s X Y row h _ _ => h
      case assign =>
        intro l pre x W K hi' hK
        gi_wp2
        exact hK _ _ (KeepsFrom.refl _ _) (KeepX.refl _ _) hi' rfl
      case body =>
        rintro l pre x a' W hl ⟨rc, hrc⟩ ⟨set, e1, e2, e3⟩ rfl hlt hsp
        clear hrc hlt
        have k2 := e2.cell
        have f2 := e2.frozen
        have hg2 : W.cell? ⟨0, 0, none⟩ = some (.iface te pe) := pw_cell_below e3 hg
        have hbad : regStep (some set) x = none → (pieces 44 s.data.toList).foldl regStep (some 0) = none := fun h => by
          obtain ⟨t, ht⟩ := hsp
          rw [← ht, List.foldl_append, List.foldl_append, e1, List.foldl_cons, List.foldl_nil, h, regStep_none]
        have hgood : ∀ z, regStep (some set) x = some z → (pre ++ [x]).foldl regStep (some 0) = some z := fun z h => by
          rw [List.foldl_append, e1, List.foldl_cons, List.foldl_nil, h]
        clear hsp e1
        have hsx : ((tx x).size : Int) = (x.length : Int) := by rw [tx_size]
        by_cases hx : x.length = 1
        · obtain ⟨b, rfl⟩ : ∃ b, x = [b] := by
            match x, hx with
            | [b], _ => exact ⟨b, rfl⟩
          have hs1 : (((tx [b]).size : Int) != 1) = false := by rw [hsx]; rfl
          have hs2 : (0 : Int) < ((tx [b]).size : Int) := by rw [hsx]; exact Int.one_pos
          clear hsx hx
          by_cases h48 : 48 ≤ b.toNat
          · by_cases h56 : b.toNat < 56
            · have q1 : decide ((b.toNat : Int) < 48) = false := decide_eq_false (by omega)
              have q2 : decide ((56 : Int) ≤ (b.toNat : Int)) = false := decide_eq_false (by omega)
              gi_wp2
              have hg' := hgood _ (by unfold regStep; rw [Option.bind_some]; exact if_pos ⟨h48, h56⟩)
              have fin : ∀ v, KeepsFrom W0.heap.size W (W.setCell ⟨w.heap.size, 0, none⟩ v).drew ∧ KeepSet (splSet (w.heap.size + 1)) W (W.setCell ⟨w.heap.size, 0, none⟩ v).drew ∧ Boxed (W.setCell ⟨w.heap.size, 0, none⟩ v).drew w.heap.size 3 v ∧ Below w.heap.size w (W.setCell ⟨w.heap.size, 0, none⟩ v).drew := fun v =>
                ⟨keepsFrom_drew ((KeepsOthers.setCell W ⟨w.heap.size, 0, none⟩ v).from W0.heap.size), keepSet_drew (KeepSet.setCell W ⟨w.heap.size, 0, none⟩ v (by show ¬ splSet (w.heap.size + 1) w.heap.size; unfold splSet; omega)), e2.set v, (below_set e3 (Nat.le_refl _)).drew⟩
              gi_region
              all_goals
                refine ⟨(fin _).1, (fin _).2.1.toX, _, hg', (fin _).2.2.1, (fin _).2.2.2⟩
            · have q1 : decide ((b.toNat : Int) < 48) = false := decide_eq_false (by omega)
              have q2 : decide ((56 : Int) ≤ (b.toNat : Int)) = true := decide_eq_true (by omega)
              have hb := hbad (by unfold regStep; rw [Option.bind_some]; exact if_neg (by omega))
              clear hbad hgood
              gi_wp2
              exact ⟨rfl, KeepsFrom.refl _ _, hb, ⟨te, pe, rfl⟩, e3⟩
          · have q1 : decide ((b.toNat : Int) < 48) = true := decide_eq_true (by omega)
            have hb := hbad (by unfold regStep; rw [Option.bind_some]; exact if_neg (by omega))
            clear hbad hgood
            gi_wp2
            exact ⟨rfl, KeepsFrom.refl _ _, hb, ⟨te, pe, rfl⟩, e3⟩
        · have hb1 : (((tx x).size : Int) != 1) = true := by rw [hsx]; exact bne_iff_ne.2 (by omega)
          have hb := hbad (by
            match x, hx with
            | [], _ => rfl
            | [a], hx => exact absurd rfl hx
            | a :: b :: r, _ => rfl)
          clear hbad hgood hsx
          gi_wp2
          exact ⟨rfl, KeepsFrom.refl _ _, hb, ⟨te, pe, rfl⟩, e3⟩
      case done =>
        rintro D ys W hD rfl ⟨set, e1, e2, e3⟩ hK
        have k2 := e2.cell
        gi_wp2
        refine ⟨by simp, .inl ⟨_, _, rfl, run_takeDeferred hK, ?_⟩⟩
        refine ⟨.int .i64 set, ?_, below_putObj e3 (by omega) hK _, by rw [e1]; rfl⟩
        simp [results, Tryz.f140, go_sem]
      case stop => exact fun D c' pre W _ _ h _ => h.elim
      case pan =>
        rintro D ch W hD ⟨e1, ⟨u, pv, rfl⟩, e3⟩ hK
        refine ⟨by simp, .inl ⟨_, _, rfl, run_takeDeferred hK, ?_⟩⟩
        exact ⟨below_putObj e3 (by omega) hK _, by rw [e1]; exact ⟨u, pv, rfl⟩⟩

theorem regions_calls (A : Option Addr) (c : Nat) (ws : List ByteArray) (i : Int) (w : World) (hr : Kd.string.C w A ws.length ws) (hs : ∀ s ∈ ws, s.size ≤ 1000000) (hi : 0 ≤ i) (hT : TabW w) :
    Calls Tryz.prog 140 #[.slice A ws.length c, .int .i64 i] w fun e w' => Below w.heap.size w w' ∧ Ans (Value.int .i64) (ws[i.toNat]?.bind regOf) e :=
  (regions_in regF 10 (Nat.le_refl _) rfl regFun (regFn 140 rfl) (regFn 138 rfl) (regFn 91 rfl) (regFn 136 rfl) (regFn 175 rfl) (regFn 177 rfl) (regFn 220 rfl) (regFn 246 rfl) (regFn 272 rfl) A c ws i w hr hs hi hT).calls (fun _ _ h => by simp [regF, Fence.list] at h)
end Go.Proofs.YtpefhdjkpdjdpaaGreatDoor.R
namespace Go.Proofs.YtpefhdjkpdjdpaaGreatDoor.R
open Go Go.RowKit Go.Proofs.YtpefhdjkpdjdpaaGreatDoorW.PrintWords Go.Proofs.YtpefhdjkpdjdpaaGreatDoorW.PrintLast Go.Proofs.YtpefhdjkpdjdpaaGreatDoorW.PrintMore
def wNum (ws : List ByteArray) (i : Nat) : Option Int := ws[i]?.bind numOf
def wReg (ws : List ByteArray) (i : Nat) : Option Int := ws[i]?.bind regOf
def wTime (ws : List ByteArray) (i : Nat) : Option Int := ws[i]?.bind timeOf
def clauseOf (ws : List ByteArray) : Option S40 := ws[0]?.bind fun v =>
  if (v.toList == [103, 114, 97, 110, 116]) = true then (wNum ws 1).bind fun a => (wNum ws 3).bind fun b => (wNum ws 5).bind fun c => (wReg ws 7).bind fun r => some ⟨1, a, b, c, r, 0, 0, 0⟩
  else if (v.toList == [119, 105, 116, 104, 100, 114, 97, 119]) = true then (wNum ws 1).bind fun a => (wNum ws 3).bind fun b => (wNum ws 5).bind fun c => (wReg ws 7).bind fun r => some ⟨2, a, b, c, r, 0, 0, 0⟩
  else if (v.toList == [114, 117, 110, 115]) = true then (wNum ws 1).bind fun a => (wNum ws 2).bind fun b => (wReg ws 4).bind fun r => some ⟨3, a, 0, 0, r, b, 0, 0⟩
  else if (v.toList == [99, 97, 116, 99, 104, 117, 112]) = true then (wNum ws 1).bind fun a => (wNum ws 2).bind fun b => (wReg ws 4).bind fun r => some ⟨4, a, 0, 0, r, b, 0, 0⟩
  else if (v.toList == [99, 111, 109, 112, 101, 116, 101]) = true then (wNum ws 1).bind fun a => (wNum ws 2).bind fun b => (wNum ws 4).bind fun c => some ⟨5, 0, 0, 0, 0, c, a, b⟩
  else if (v.toList == [119, 97, 116, 101, 114, 115, 104, 101, 100]) = true then (wNum ws 1).bind fun a => (wTime ws 3).bind fun b => (wTime ws 5).bind fun c => some ⟨6, 0, b, c, 0, 0, a, 0⟩
  else none

theorem setCell_put (W : World) (B : Nat) (cs : Array Value) (t : TypeId) (fr : Nat × Nat) (j : Nat) (v : Value) (h : B < W.heap.size) : (W.putObj B (.cells cs t fr)).setCell ⟨B, j, none⟩ v = W.putObj B (.cells (cs.setIfInBounds j v) t fr) := by
  unfold World.setCell World.putObj
  congr 1
  apply Array.ext_getElem?
  intro i
  rw [Array.getElem?_modify]
  by_cases hi : B = i
  · subst hi; simp [h]
  · rw [if_neg hi]; simp [hi]
theorem setCell_at (W : World) (B : Nat) (cs : Array Value) (t : TypeId) (fr : Nat × Nat) (j : Nat) (v : Value) (h : W.heap[B]? = some (.cells cs t fr)) : W.setCell ⟨B, j, none⟩ v = W.putObj B (.cells (cs.setIfInBounds j v) t fr) := by
  have hlt := (Array.getElem?_eq_some_iff.1 h).1
  unfold World.setCell World.putObj
  congr 1
  apply Array.ext_getElem?
  intro i
  rw [Array.getElem?_modify]
  by_cases hi : B = i
  · subst hi
    have he : W.heap[B] = .cells cs t fr := (Array.getElem?_eq_some_iff.1 h).2
    simp [hlt, he]
  · rw [if_neg hi]; simp [hi]

theorem store8 {W : World} {B : Nat} {c0 c1 c2 c3 c4 c5 c6 c7 : Value} {t : TypeId} (x0 x1 x2 x3 x4 x5 x6 x7 : Value) (h : W.heap[B]? = some (.cells #[c0, c1, c2, c3, c4, c5, c6, c7] t (0, 0))) :
    ((((((((W.setCell ⟨B, 0, none⟩ x0).setCell ⟨B, 1, none⟩ x1).setCell ⟨B, 2, none⟩ x2).setCell ⟨B, 3, none⟩ x3).setCell ⟨B, 4, none⟩ x4).setCell ⟨B, 5, none⟩ x5).setCell ⟨B, 6, none⟩ x6).setCell ⟨B, 7, none⟩ x7) = W.putObj B (.cells #[x0, x1, x2, x3, x4, x5, x6, x7] t (0, 0)) := by
  have hlt := (Array.getElem?_eq_some_iff.1 h).1
  rw [setCell_at W B _ t (0, 0) 0 x0 h, setCell_put _ _ _ _ _ _ _ hlt, setCell_put _ _ _ _ _ _ _ hlt, setCell_put _ _ _ _ _ _ _ hlt, setCell_put _ _ _ _ _ _ _ hlt, setCell_put _ _ _ _ _ _ _ hlt, setCell_put _ _ _ _ _ _ _ hlt, setCell_put _ _ _ _ _ _ _ hlt]
  simp only [List.setIfInBounds_toArray, List.set_cons_zero, List.set_cons_succ]

set_option maxRecDepth 100000 in
set_option maxHeartbeats 8000000 in
theorem clause_calls (A : Option Addr) (c : Nat) (ws : List ByteArray) (w : World) (hr : Kd.string.C w A ws.length ws) (hs : ∀ s ∈ ws, s.size ≤ 1000000) (hT : TabW w) :
    Calls Tryz.prog 94 #[.slice A ws.length c] w fun e w' => Below w.heap.size w w' ∧ Ans (fun x : S40 => agg40 x) (clauseOf ws) e := by
  obtain ⟨te, pe, hg⟩ := hT.word
  have hu40 := Tryz.underlying40
  have hB0 : Below w.heap.size w (w.alloc (.cells #[.int .i64 0, .int .i64 0, .int .i64 0, .int .i64 0, .int .i64 0, .int .i64 0, .int .i64 0, .int .i64 0] 40)) := below_alloc (Below.refl _ _) _
  have hX0 : (w.alloc (.cells #[.int .i64 0, .int .i64 0, .int .i64 0, .int .i64 0, .int .i64 0, .int .i64 0, .int .i64 0, .int .i64 0] 40)).heap[w.heap.size]? = some (.cells #[.int .i64 0, .int .i64 0, .int .i64 0, .int .i64 0, .int .i64 0, .int .i64 0, .int .i64 0, .int .i64 0] 40 (0, 0)) := World.alloc_heap_new w _
  obtain ⟨W0, hW0⟩ : ∃ W0, w.alloc (.cells #[.int .i64 0, .int .i64 0, .int .i64 0, .int .i64 0, .int .i64 0, .int .i64 0, .int .i64 0, .int .i64 0] 40) = W0 := ⟨_, rfl⟩
  rw [hW0] at hB0 hX0
  have hN : ∀ (j : Int) (_ : 0 ≤ j) (W : World), Below W0.heap.size W0 W → Calls Tryz.prog 139 #[.slice A ws.length c, .int .i64 j] W fun e w' => Below W0.heap.size W0 w' ∧ Ans (Value.int .i64) (wNum ws j.toNat) e := fun j hj W hb =>
    (number_calls A c ws j W (Kd.C_below hr (below_step hB0 hb)) (fun s h => Nat.le_trans (hs s h) (by decide)) hj (hT.below (below_step hB0 hb))).mono (fun e w' h => ⟨below_step hb h.1, h.2⟩)
  have hR : ∀ (j : Int) (_ : 0 ≤ j) (W : World), Below W0.heap.size W0 W → Calls Tryz.prog 140 #[.slice A ws.length c, .int .i64 j] W fun e w' => Below W0.heap.size W0 w' ∧ Ans (Value.int .i64) (wReg ws j.toNat) e := fun j hj W hb =>
    (regions_calls A c ws j W (Kd.C_below hr (below_step hB0 hb)) hs hj (hT.below (below_step hB0 hb))).mono (fun e w' h => ⟨below_step hb h.1, h.2⟩)
  have hM : ∀ (j : Int) (_ : 0 ≤ j) (W : World), Below W0.heap.size W0 W → Calls Tryz.prog 141 #[.slice A ws.length c, .int .i64 j] W fun e w' => Below W0.heap.size W0 w' ∧ Ans (Value.int .i64) (wTime ws j.toNat) e := fun j hj W hb =>
    (time_calls A c ws j W (Kd.C_below hr (below_step hB0 hb)) hs hj (hT.below (below_step hB0 hb))).mono (fun e w' h => ⟨below_step hb h.1, h.2⟩)
  have hwd := word_calls A c ws 0 W0 (Kd.C_below hr hB0) (Int.le_refl _) (hT.below hB0)
  have hg0 := pw_cell_below hB0 hg
  have hbk : ∀ W, Below W0.heap.size W0 W → W.heap[w.heap.size]? = some (.cells #[.int .i64 0, .int .i64 0, .int .i64 0, .int .i64 0, .int .i64 0, .int .i64 0, .int .i64 0, .int .i64 0] 40 (0, 0)) := fun W hb => (hb.block _ (Array.getElem?_eq_some_iff.1 hX0).1).trans hX0
  have hend : ∀ W (cs : Array Value), Below W0.heap.size W0 W → Below w.heap.size w (W.putObj w.heap.size (.cells cs 40 (0, 0))) := fun W cs hb => (below_step hB0 hb).grown (grownBy_putObj' _ _ _) ((below_step hB0 hb).size) (fun k e => by cases e; exact Nat.le_refl _)
  clear hr hs hT
  unfold clauseOf
  rw [show ((0 : Int).toNat) = 0 from rfl] at hwd
  cases hw : ws[0]? with
  | none =>
    rw [hw] at hwd
    go_enter Tryz.func94, Tryz.ntmps94
    go_wp2_with (go_at_call 138; refine hwd.mono ?_; rintro e w1 ⟨hw1, u, pv, rfl⟩; replace hw1 := hw1.symm; subst hw1)
    exact ⟨rfl, hB0, u, pv, rfl⟩
  | some v =>
    rw [hw] at hwd
    rw [Option.bind_some]
    by_cases k1 : (v.toList == [103, 114, 97, 110, 116]) = true
    · rw [if_pos k1]
      go_enter Tryz.func94, Tryz.ntmps94
      go_wp2_with (first
        | (go_at_call 138; refine hwd.mono ?_; rintro e w1 ⟨hw1, rfl⟩; replace hw1 := hw1.symm; subst hw1)
        | (go_at_call 139; (with_reducible refine (hN 1 (by decide) _ (Below.refl _ _)).mono ?_); rintro e w2 ⟨b0, ha⟩; rw [show (1 : Int).toNat = 1 from rfl] at ha; rcases h0 : wNum ws 1 with _ | a0; (rw [h0] at ha; obtain ⟨u, pv, rfl⟩ := ha; exact ⟨rfl, below_step hB0 b0, by rw [h0]; exact ⟨u, pv, rfl⟩⟩); rw [h0] at ha; replace ha : e = _ := ha; subst ha)
        | (go_at_call 139; (with_reducible refine (hN 3 (by decide) _ b0).mono ?_); rintro e w3 ⟨b1, ha⟩; rw [show (3 : Int).toNat = 3 from rfl] at ha; rcases h1 : wNum ws 3 with _ | a1; (rw [h1] at ha; obtain ⟨u, pv, rfl⟩ := ha; exact ⟨rfl, below_step hB0 b1, by rw [h0, Option.bind_some, h1]; exact ⟨u, pv, rfl⟩⟩); rw [h1] at ha; replace ha : e = _ := ha; subst ha)
        | (go_at_call 139; (with_reducible refine (hN 5 (by decide) _ b1).mono ?_); rintro e w4 ⟨b2, ha⟩; rw [show (5 : Int).toNat = 5 from rfl] at ha; rcases h2 : wNum ws 5 with _ | a2; (rw [h2] at ha; obtain ⟨u, pv, rfl⟩ := ha; exact ⟨rfl, below_step hB0 b2, by rw [h0, Option.bind_some, h1, Option.bind_some, h2]; exact ⟨u, pv, rfl⟩⟩); rw [h2] at ha; replace ha : e = _ := ha; subst ha)
        | (go_at_call 140; (with_reducible refine (hR 7 (by decide) _ b2).mono ?_); rintro e w5 ⟨b3, ha⟩; rw [show (7 : Int).toNat = 7 from rfl] at ha; rcases h3 : wReg ws 7 with _ | a3; (rw [h3] at ha; obtain ⟨u, pv, rfl⟩ := ha; exact ⟨rfl, below_step hB0 b3, by rw [h0, Option.bind_some, h1, Option.bind_some, h2, Option.bind_some, h3]; exact ⟨u, pv, rfl⟩⟩); rw [h3] at ha; replace ha : e = _ := ha; subst ha; have hX := hbk _ b3; have z0 : w5.cell? ⟨w.heap.size, 0, none⟩ = some (.int .i64 0) := (blk_cell hX 0).trans rfl; have y0 := blk_frozen hX 0; have z1 : w5.cell? ⟨w.heap.size, 1, none⟩ = some (.int .i64 0) := (blk_cell hX 1).trans rfl; have y1 := blk_frozen hX 1; have z2 : w5.cell? ⟨w.heap.size, 2, none⟩ = some (.int .i64 0) := (blk_cell hX 2).trans rfl; have y2 := blk_frozen hX 2; have z3 : w5.cell? ⟨w.heap.size, 3, none⟩ = some (.int .i64 0) := (blk_cell hX 3).trans rfl; have y3 := blk_frozen hX 3; have z4 : w5.cell? ⟨w.heap.size, 4, none⟩ = some (.int .i64 0) := (blk_cell hX 4).trans rfl; have y4 := blk_frozen hX 4; have z5 : w5.cell? ⟨w.heap.size, 5, none⟩ = some (.int .i64 0) := (blk_cell hX 5).trans rfl; have y5 := blk_frozen hX 5; have z6 : w5.cell? ⟨w.heap.size, 6, none⟩ = some (.int .i64 0) := (blk_cell hX 6).trans rfl; have y6 := blk_frozen hX 6; have z7 : w5.cell? ⟨w.heap.size, 7, none⟩ = some (.int .i64 0) := (blk_cell hX 7).trans rfl; have y7 := blk_frozen hX 7))
      rw [store8 _ _ _ _ _ _ _ _ hX]
      refine bodyPost_ret (v := .agg #[.int .i64 1, .int .i64 a0, .int .i64 a1, .int .i64 a2, .int .i64 a3, .int .i64 0, .int .i64 0, .int .i64 0]) ?_ rfl ⟨hend _ _ b3, by rw [h0, Option.bind_some, h1, Option.bind_some, h2, Option.bind_some, h3, Option.bind_some]; rfl⟩
      have r0 := blk_cell (World.putObj_heap_same (o := .cells #[.int .i64 1, .int .i64 a0, .int .i64 a1, .int .i64 a2, .int .i64 a3, .int .i64 0, .int .i64 0, .int .i64 0] 40 (0, 0)) (Array.getElem?_eq_some_iff.1 hX).1) 0
      have r1 := blk_cell (World.putObj_heap_same (o := .cells #[.int .i64 1, .int .i64 a0, .int .i64 a1, .int .i64 a2, .int .i64 a3, .int .i64 0, .int .i64 0, .int .i64 0] 40 (0, 0)) (Array.getElem?_eq_some_iff.1 hX).1) 1
      have r2 := blk_cell (World.putObj_heap_same (o := .cells #[.int .i64 1, .int .i64 a0, .int .i64 a1, .int .i64 a2, .int .i64 a3, .int .i64 0, .int .i64 0, .int .i64 0] 40 (0, 0)) (Array.getElem?_eq_some_iff.1 hX).1) 2
      have r3 := blk_cell (World.putObj_heap_same (o := .cells #[.int .i64 1, .int .i64 a0, .int .i64 a1, .int .i64 a2, .int .i64 a3, .int .i64 0, .int .i64 0, .int .i64 0] 40 (0, 0)) (Array.getElem?_eq_some_iff.1 hX).1) 3
      have r4 := blk_cell (World.putObj_heap_same (o := .cells #[.int .i64 1, .int .i64 a0, .int .i64 a1, .int .i64 a2, .int .i64 a3, .int .i64 0, .int .i64 0, .int .i64 0] 40 (0, 0)) (Array.getElem?_eq_some_iff.1 hX).1) 4
      have r5 := blk_cell (World.putObj_heap_same (o := .cells #[.int .i64 1, .int .i64 a0, .int .i64 a1, .int .i64 a2, .int .i64 a3, .int .i64 0, .int .i64 0, .int .i64 0] 40 (0, 0)) (Array.getElem?_eq_some_iff.1 hX).1) 5
      have r6 := blk_cell (World.putObj_heap_same (o := .cells #[.int .i64 1, .int .i64 a0, .int .i64 a1, .int .i64 a2, .int .i64 a3, .int .i64 0, .int .i64 0, .int .i64 0] 40 (0, 0)) (Array.getElem?_eq_some_iff.1 hX).1) 6
      have r7 := blk_cell (World.putObj_heap_same (o := .cells #[.int .i64 1, .int .i64 a0, .int .i64 a1, .int .i64 a2, .int .i64 a3, .int .i64 0, .int .i64 0, .int .i64 0] 40 (0, 0)) (Array.getElem?_eq_some_iff.1 hX).1) 7
      simp only [List.getElem?_toArray, List.getElem?_cons_zero, List.getElem?_cons_succ] at r0 r1 r2 r3 r4 r5 r6 r7
      simp [results, Tryz.f94, go_sem, r0, r1, r2, r3, r4, r5, r6, r7]
    rw [if_neg k1]
    rw [Bool.not_eq_true] at k1
    by_cases k2 : (v.toList == [119, 105, 116, 104, 100, 114, 97, 119]) = true
    · rw [if_pos k2]
      go_enter Tryz.func94, Tryz.ntmps94
      go_wp2_with (first
        | (go_at_call 138; refine hwd.mono ?_; rintro e w1 ⟨hw1, rfl⟩; replace hw1 := hw1.symm; subst hw1)
        | (go_at_call 139; (with_reducible refine (hN 1 (by decide) _ (Below.refl _ _)).mono ?_); rintro e w2 ⟨b0, ha⟩; rw [show (1 : Int).toNat = 1 from rfl] at ha; rcases h0 : wNum ws 1 with _ | a0; (rw [h0] at ha; obtain ⟨u, pv, rfl⟩ := ha; exact ⟨rfl, below_step hB0 b0, by rw [h0]; exact ⟨u, pv, rfl⟩⟩); rw [h0] at ha; replace ha : e = _ := ha; subst ha)
        | (go_at_call 139; (with_reducible refine (hN 3 (by decide) _ b0).mono ?_); rintro e w3 ⟨b1, ha⟩; rw [show (3 : Int).toNat = 3 from rfl] at ha; rcases h1 : wNum ws 3 with _ | a1; (rw [h1] at ha; obtain ⟨u, pv, rfl⟩ := ha; exact ⟨rfl, below_step hB0 b1, by rw [h0, Option.bind_some, h1]; exact ⟨u, pv, rfl⟩⟩); rw [h1] at ha; replace ha : e = _ := ha; subst ha)
        | (go_at_call 139; (with_reducible refine (hN 5 (by decide) _ b1).mono ?_); rintro e w4 ⟨b2, ha⟩; rw [show (5 : Int).toNat = 5 from rfl] at ha; rcases h2 : wNum ws 5 with _ | a2; (rw [h2] at ha; obtain ⟨u, pv, rfl⟩ := ha; exact ⟨rfl, below_step hB0 b2, by rw [h0, Option.bind_some, h1, Option.bind_some, h2]; exact ⟨u, pv, rfl⟩⟩); rw [h2] at ha; replace ha : e = _ := ha; subst ha)
        | (go_at_call 140; (with_reducible refine (hR 7 (by decide) _ b2).mono ?_); rintro e w5 ⟨b3, ha⟩; rw [show (7 : Int).toNat = 7 from rfl] at ha; rcases h3 : wReg ws 7 with _ | a3; (rw [h3] at ha; obtain ⟨u, pv, rfl⟩ := ha; exact ⟨rfl, below_step hB0 b3, by rw [h0, Option.bind_some, h1, Option.bind_some, h2, Option.bind_some, h3]; exact ⟨u, pv, rfl⟩⟩); rw [h3] at ha; replace ha : e = _ := ha; subst ha; have hX := hbk _ b3; have z0 : w5.cell? ⟨w.heap.size, 0, none⟩ = some (.int .i64 0) := (blk_cell hX 0).trans rfl; have y0 := blk_frozen hX 0; have z1 : w5.cell? ⟨w.heap.size, 1, none⟩ = some (.int .i64 0) := (blk_cell hX 1).trans rfl; have y1 := blk_frozen hX 1; have z2 : w5.cell? ⟨w.heap.size, 2, none⟩ = some (.int .i64 0) := (blk_cell hX 2).trans rfl; have y2 := blk_frozen hX 2; have z3 : w5.cell? ⟨w.heap.size, 3, none⟩ = some (.int .i64 0) := (blk_cell hX 3).trans rfl; have y3 := blk_frozen hX 3; have z4 : w5.cell? ⟨w.heap.size, 4, none⟩ = some (.int .i64 0) := (blk_cell hX 4).trans rfl; have y4 := blk_frozen hX 4; have z5 : w5.cell? ⟨w.heap.size, 5, none⟩ = some (.int .i64 0) := (blk_cell hX 5).trans rfl; have y5 := blk_frozen hX 5; have z6 : w5.cell? ⟨w.heap.size, 6, none⟩ = some (.int .i64 0) := (blk_cell hX 6).trans rfl; have y6 := blk_frozen hX 6; have z7 : w5.cell? ⟨w.heap.size, 7, none⟩ = some (.int .i64 0) := (blk_cell hX 7).trans rfl; have y7 := blk_frozen hX 7))
      rw [store8 _ _ _ _ _ _ _ _ hX]
      refine bodyPost_ret (v := .agg #[.int .i64 2, .int .i64 a0, .int .i64 a1, .int .i64 a2, .int .i64 a3, .int .i64 0, .int .i64 0, .int .i64 0]) ?_ rfl ⟨hend _ _ b3, by rw [h0, Option.bind_some, h1, Option.bind_some, h2, Option.bind_some, h3, Option.bind_some]; rfl⟩
      have r0 := blk_cell (World.putObj_heap_same (o := .cells #[.int .i64 2, .int .i64 a0, .int .i64 a1, .int .i64 a2, .int .i64 a3, .int .i64 0, .int .i64 0, .int .i64 0] 40 (0, 0)) (Array.getElem?_eq_some_iff.1 hX).1) 0
      have r1 := blk_cell (World.putObj_heap_same (o := .cells #[.int .i64 2, .int .i64 a0, .int .i64 a1, .int .i64 a2, .int .i64 a3, .int .i64 0, .int .i64 0, .int .i64 0] 40 (0, 0)) (Array.getElem?_eq_some_iff.1 hX).1) 1
      have r2 := blk_cell (World.putObj_heap_same (o := .cells #[.int .i64 2, .int .i64 a0, .int .i64 a1, .int .i64 a2, .int .i64 a3, .int .i64 0, .int .i64 0, .int .i64 0] 40 (0, 0)) (Array.getElem?_eq_some_iff.1 hX).1) 2
      have r3 := blk_cell (World.putObj_heap_same (o := .cells #[.int .i64 2, .int .i64 a0, .int .i64 a1, .int .i64 a2, .int .i64 a3, .int .i64 0, .int .i64 0, .int .i64 0] 40 (0, 0)) (Array.getElem?_eq_some_iff.1 hX).1) 3
      have r4 := blk_cell (World.putObj_heap_same (o := .cells #[.int .i64 2, .int .i64 a0, .int .i64 a1, .int .i64 a2, .int .i64 a3, .int .i64 0, .int .i64 0, .int .i64 0] 40 (0, 0)) (Array.getElem?_eq_some_iff.1 hX).1) 4
      have r5 := blk_cell (World.putObj_heap_same (o := .cells #[.int .i64 2, .int .i64 a0, .int .i64 a1, .int .i64 a2, .int .i64 a3, .int .i64 0, .int .i64 0, .int .i64 0] 40 (0, 0)) (Array.getElem?_eq_some_iff.1 hX).1) 5
      have r6 := blk_cell (World.putObj_heap_same (o := .cells #[.int .i64 2, .int .i64 a0, .int .i64 a1, .int .i64 a2, .int .i64 a3, .int .i64 0, .int .i64 0, .int .i64 0] 40 (0, 0)) (Array.getElem?_eq_some_iff.1 hX).1) 6
      have r7 := blk_cell (World.putObj_heap_same (o := .cells #[.int .i64 2, .int .i64 a0, .int .i64 a1, .int .i64 a2, .int .i64 a3, .int .i64 0, .int .i64 0, .int .i64 0] 40 (0, 0)) (Array.getElem?_eq_some_iff.1 hX).1) 7
      simp only [List.getElem?_toArray, List.getElem?_cons_zero, List.getElem?_cons_succ] at r0 r1 r2 r3 r4 r5 r6 r7
      simp [results, Tryz.f94, go_sem, r0, r1, r2, r3, r4, r5, r6, r7]
    rw [if_neg k2]
    rw [Bool.not_eq_true] at k2
    by_cases k3 : (v.toList == [114, 117, 110, 115]) = true
    · rw [if_pos k3]
      go_enter Tryz.func94, Tryz.ntmps94
      go_wp2_with (first
        | (go_at_call 138; refine hwd.mono ?_; rintro e w1 ⟨hw1, rfl⟩; replace hw1 := hw1.symm; subst hw1)
        | (go_at_call 139; (with_reducible refine (hN 1 (by decide) _ (Below.refl _ _)).mono ?_); rintro e w2 ⟨b0, ha⟩; rw [show (1 : Int).toNat = 1 from rfl] at ha; rcases h0 : wNum ws 1 with _ | a0; (rw [h0] at ha; obtain ⟨u, pv, rfl⟩ := ha; exact ⟨rfl, below_step hB0 b0, by rw [h0]; exact ⟨u, pv, rfl⟩⟩); rw [h0] at ha; replace ha : e = _ := ha; subst ha)
        | (go_at_call 139; (with_reducible refine (hN 2 (by decide) _ b0).mono ?_); rintro e w3 ⟨b1, ha⟩; rw [show (2 : Int).toNat = 2 from rfl] at ha; rcases h1 : wNum ws 2 with _ | a1; (rw [h1] at ha; obtain ⟨u, pv, rfl⟩ := ha; exact ⟨rfl, below_step hB0 b1, by rw [h0, Option.bind_some, h1]; exact ⟨u, pv, rfl⟩⟩); rw [h1] at ha; replace ha : e = _ := ha; subst ha)
        | (go_at_call 140; (with_reducible refine (hR 4 (by decide) _ b1).mono ?_); rintro e w4 ⟨b2, ha⟩; rw [show (4 : Int).toNat = 4 from rfl] at ha; rcases h2 : wReg ws 4 with _ | a2; (rw [h2] at ha; obtain ⟨u, pv, rfl⟩ := ha; exact ⟨rfl, below_step hB0 b2, by rw [h0, Option.bind_some, h1, Option.bind_some, h2]; exact ⟨u, pv, rfl⟩⟩); rw [h2] at ha; replace ha : e = _ := ha; subst ha; have hX := hbk _ b2; have z0 : w4.cell? ⟨w.heap.size, 0, none⟩ = some (.int .i64 0) := (blk_cell hX 0).trans rfl; have y0 := blk_frozen hX 0; have z1 : w4.cell? ⟨w.heap.size, 1, none⟩ = some (.int .i64 0) := (blk_cell hX 1).trans rfl; have y1 := blk_frozen hX 1; have z2 : w4.cell? ⟨w.heap.size, 2, none⟩ = some (.int .i64 0) := (blk_cell hX 2).trans rfl; have y2 := blk_frozen hX 2; have z3 : w4.cell? ⟨w.heap.size, 3, none⟩ = some (.int .i64 0) := (blk_cell hX 3).trans rfl; have y3 := blk_frozen hX 3; have z4 : w4.cell? ⟨w.heap.size, 4, none⟩ = some (.int .i64 0) := (blk_cell hX 4).trans rfl; have y4 := blk_frozen hX 4; have z5 : w4.cell? ⟨w.heap.size, 5, none⟩ = some (.int .i64 0) := (blk_cell hX 5).trans rfl; have y5 := blk_frozen hX 5; have z6 : w4.cell? ⟨w.heap.size, 6, none⟩ = some (.int .i64 0) := (blk_cell hX 6).trans rfl; have y6 := blk_frozen hX 6; have z7 : w4.cell? ⟨w.heap.size, 7, none⟩ = some (.int .i64 0) := (blk_cell hX 7).trans rfl; have y7 := blk_frozen hX 7))
      rw [store8 _ _ _ _ _ _ _ _ hX]
      refine bodyPost_ret (v := .agg #[.int .i64 3, .int .i64 a0, .int .i64 0, .int .i64 0, .int .i64 a2, .int .i64 a1, .int .i64 0, .int .i64 0]) ?_ rfl ⟨hend _ _ b2, by rw [h0, Option.bind_some, h1, Option.bind_some, h2, Option.bind_some]; rfl⟩
      have r0 := blk_cell (World.putObj_heap_same (o := .cells #[.int .i64 3, .int .i64 a0, .int .i64 0, .int .i64 0, .int .i64 a2, .int .i64 a1, .int .i64 0, .int .i64 0] 40 (0, 0)) (Array.getElem?_eq_some_iff.1 hX).1) 0
      have r1 := blk_cell (World.putObj_heap_same (o := .cells #[.int .i64 3, .int .i64 a0, .int .i64 0, .int .i64 0, .int .i64 a2, .int .i64 a1, .int .i64 0, .int .i64 0] 40 (0, 0)) (Array.getElem?_eq_some_iff.1 hX).1) 1
      have r2 := blk_cell (World.putObj_heap_same (o := .cells #[.int .i64 3, .int .i64 a0, .int .i64 0, .int .i64 0, .int .i64 a2, .int .i64 a1, .int .i64 0, .int .i64 0] 40 (0, 0)) (Array.getElem?_eq_some_iff.1 hX).1) 2
      have r3 := blk_cell (World.putObj_heap_same (o := .cells #[.int .i64 3, .int .i64 a0, .int .i64 0, .int .i64 0, .int .i64 a2, .int .i64 a1, .int .i64 0, .int .i64 0] 40 (0, 0)) (Array.getElem?_eq_some_iff.1 hX).1) 3
      have r4 := blk_cell (World.putObj_heap_same (o := .cells #[.int .i64 3, .int .i64 a0, .int .i64 0, .int .i64 0, .int .i64 a2, .int .i64 a1, .int .i64 0, .int .i64 0] 40 (0, 0)) (Array.getElem?_eq_some_iff.1 hX).1) 4
      have r5 := blk_cell (World.putObj_heap_same (o := .cells #[.int .i64 3, .int .i64 a0, .int .i64 0, .int .i64 0, .int .i64 a2, .int .i64 a1, .int .i64 0, .int .i64 0] 40 (0, 0)) (Array.getElem?_eq_some_iff.1 hX).1) 5
      have r6 := blk_cell (World.putObj_heap_same (o := .cells #[.int .i64 3, .int .i64 a0, .int .i64 0, .int .i64 0, .int .i64 a2, .int .i64 a1, .int .i64 0, .int .i64 0] 40 (0, 0)) (Array.getElem?_eq_some_iff.1 hX).1) 6
      have r7 := blk_cell (World.putObj_heap_same (o := .cells #[.int .i64 3, .int .i64 a0, .int .i64 0, .int .i64 0, .int .i64 a2, .int .i64 a1, .int .i64 0, .int .i64 0] 40 (0, 0)) (Array.getElem?_eq_some_iff.1 hX).1) 7
      simp only [List.getElem?_toArray, List.getElem?_cons_zero, List.getElem?_cons_succ] at r0 r1 r2 r3 r4 r5 r6 r7
      simp [results, Tryz.f94, go_sem, r0, r1, r2, r3, r4, r5, r6, r7]
    rw [if_neg k3]
    rw [Bool.not_eq_true] at k3
    by_cases k4 : (v.toList == [99, 97, 116, 99, 104, 117, 112]) = true
    · rw [if_pos k4]
      go_enter Tryz.func94, Tryz.ntmps94
      go_wp2_with (first
        | (go_at_call 138; refine hwd.mono ?_; rintro e w1 ⟨hw1, rfl⟩; replace hw1 := hw1.symm; subst hw1)
        | (go_at_call 139; (with_reducible refine (hN 1 (by decide) _ (Below.refl _ _)).mono ?_); rintro e w2 ⟨b0, ha⟩; rw [show (1 : Int).toNat = 1 from rfl] at ha; rcases h0 : wNum ws 1 with _ | a0; (rw [h0] at ha; obtain ⟨u, pv, rfl⟩ := ha; exact ⟨rfl, below_step hB0 b0, by rw [h0]; exact ⟨u, pv, rfl⟩⟩); rw [h0] at ha; replace ha : e = _ := ha; subst ha)
        | (go_at_call 139; (with_reducible refine (hN 2 (by decide) _ b0).mono ?_); rintro e w3 ⟨b1, ha⟩; rw [show (2 : Int).toNat = 2 from rfl] at ha; rcases h1 : wNum ws 2 with _ | a1; (rw [h1] at ha; obtain ⟨u, pv, rfl⟩ := ha; exact ⟨rfl, below_step hB0 b1, by rw [h0, Option.bind_some, h1]; exact ⟨u, pv, rfl⟩⟩); rw [h1] at ha; replace ha : e = _ := ha; subst ha)
        | (go_at_call 140; (with_reducible refine (hR 4 (by decide) _ b1).mono ?_); rintro e w4 ⟨b2, ha⟩; rw [show (4 : Int).toNat = 4 from rfl] at ha; rcases h2 : wReg ws 4 with _ | a2; (rw [h2] at ha; obtain ⟨u, pv, rfl⟩ := ha; exact ⟨rfl, below_step hB0 b2, by rw [h0, Option.bind_some, h1, Option.bind_some, h2]; exact ⟨u, pv, rfl⟩⟩); rw [h2] at ha; replace ha : e = _ := ha; subst ha; have hX := hbk _ b2; have z0 : w4.cell? ⟨w.heap.size, 0, none⟩ = some (.int .i64 0) := (blk_cell hX 0).trans rfl; have y0 := blk_frozen hX 0; have z1 : w4.cell? ⟨w.heap.size, 1, none⟩ = some (.int .i64 0) := (blk_cell hX 1).trans rfl; have y1 := blk_frozen hX 1; have z2 : w4.cell? ⟨w.heap.size, 2, none⟩ = some (.int .i64 0) := (blk_cell hX 2).trans rfl; have y2 := blk_frozen hX 2; have z3 : w4.cell? ⟨w.heap.size, 3, none⟩ = some (.int .i64 0) := (blk_cell hX 3).trans rfl; have y3 := blk_frozen hX 3; have z4 : w4.cell? ⟨w.heap.size, 4, none⟩ = some (.int .i64 0) := (blk_cell hX 4).trans rfl; have y4 := blk_frozen hX 4; have z5 : w4.cell? ⟨w.heap.size, 5, none⟩ = some (.int .i64 0) := (blk_cell hX 5).trans rfl; have y5 := blk_frozen hX 5; have z6 : w4.cell? ⟨w.heap.size, 6, none⟩ = some (.int .i64 0) := (blk_cell hX 6).trans rfl; have y6 := blk_frozen hX 6; have z7 : w4.cell? ⟨w.heap.size, 7, none⟩ = some (.int .i64 0) := (blk_cell hX 7).trans rfl; have y7 := blk_frozen hX 7))
      rw [store8 _ _ _ _ _ _ _ _ hX]
      refine bodyPost_ret (v := .agg #[.int .i64 4, .int .i64 a0, .int .i64 0, .int .i64 0, .int .i64 a2, .int .i64 a1, .int .i64 0, .int .i64 0]) ?_ rfl ⟨hend _ _ b2, by rw [h0, Option.bind_some, h1, Option.bind_some, h2, Option.bind_some]; rfl⟩
      have r0 := blk_cell (World.putObj_heap_same (o := .cells #[.int .i64 4, .int .i64 a0, .int .i64 0, .int .i64 0, .int .i64 a2, .int .i64 a1, .int .i64 0, .int .i64 0] 40 (0, 0)) (Array.getElem?_eq_some_iff.1 hX).1) 0
      have r1 := blk_cell (World.putObj_heap_same (o := .cells #[.int .i64 4, .int .i64 a0, .int .i64 0, .int .i64 0, .int .i64 a2, .int .i64 a1, .int .i64 0, .int .i64 0] 40 (0, 0)) (Array.getElem?_eq_some_iff.1 hX).1) 1
      have r2 := blk_cell (World.putObj_heap_same (o := .cells #[.int .i64 4, .int .i64 a0, .int .i64 0, .int .i64 0, .int .i64 a2, .int .i64 a1, .int .i64 0, .int .i64 0] 40 (0, 0)) (Array.getElem?_eq_some_iff.1 hX).1) 2
      have r3 := blk_cell (World.putObj_heap_same (o := .cells #[.int .i64 4, .int .i64 a0, .int .i64 0, .int .i64 0, .int .i64 a2, .int .i64 a1, .int .i64 0, .int .i64 0] 40 (0, 0)) (Array.getElem?_eq_some_iff.1 hX).1) 3
      have r4 := blk_cell (World.putObj_heap_same (o := .cells #[.int .i64 4, .int .i64 a0, .int .i64 0, .int .i64 0, .int .i64 a2, .int .i64 a1, .int .i64 0, .int .i64 0] 40 (0, 0)) (Array.getElem?_eq_some_iff.1 hX).1) 4
      have r5 := blk_cell (World.putObj_heap_same (o := .cells #[.int .i64 4, .int .i64 a0, .int .i64 0, .int .i64 0, .int .i64 a2, .int .i64 a1, .int .i64 0, .int .i64 0] 40 (0, 0)) (Array.getElem?_eq_some_iff.1 hX).1) 5
      have r6 := blk_cell (World.putObj_heap_same (o := .cells #[.int .i64 4, .int .i64 a0, .int .i64 0, .int .i64 0, .int .i64 a2, .int .i64 a1, .int .i64 0, .int .i64 0] 40 (0, 0)) (Array.getElem?_eq_some_iff.1 hX).1) 6
      have r7 := blk_cell (World.putObj_heap_same (o := .cells #[.int .i64 4, .int .i64 a0, .int .i64 0, .int .i64 0, .int .i64 a2, .int .i64 a1, .int .i64 0, .int .i64 0] 40 (0, 0)) (Array.getElem?_eq_some_iff.1 hX).1) 7
      simp only [List.getElem?_toArray, List.getElem?_cons_zero, List.getElem?_cons_succ] at r0 r1 r2 r3 r4 r5 r6 r7
      simp [results, Tryz.f94, go_sem, r0, r1, r2, r3, r4, r5, r6, r7]
    rw [if_neg k4]
    rw [Bool.not_eq_true] at k4
    by_cases k5 : (v.toList == [99, 111, 109, 112, 101, 116, 101]) = true
    · rw [if_pos k5]
      go_enter Tryz.func94, Tryz.ntmps94
      go_wp2_with (first
        | (go_at_call 138; refine hwd.mono ?_; rintro e w1 ⟨hw1, rfl⟩; replace hw1 := hw1.symm; subst hw1)
        | (go_at_call 139; (with_reducible refine (hN 1 (by decide) _ (Below.refl _ _)).mono ?_); rintro e w2 ⟨b0, ha⟩; rw [show (1 : Int).toNat = 1 from rfl] at ha; rcases h0 : wNum ws 1 with _ | a0; (rw [h0] at ha; obtain ⟨u, pv, rfl⟩ := ha; exact ⟨rfl, below_step hB0 b0, by rw [h0]; exact ⟨u, pv, rfl⟩⟩); rw [h0] at ha; replace ha : e = _ := ha; subst ha)
        | (go_at_call 139; (with_reducible refine (hN 2 (by decide) _ b0).mono ?_); rintro e w3 ⟨b1, ha⟩; rw [show (2 : Int).toNat = 2 from rfl] at ha; rcases h1 : wNum ws 2 with _ | a1; (rw [h1] at ha; obtain ⟨u, pv, rfl⟩ := ha; exact ⟨rfl, below_step hB0 b1, by rw [h0, Option.bind_some, h1]; exact ⟨u, pv, rfl⟩⟩); rw [h1] at ha; replace ha : e = _ := ha; subst ha)
        | (go_at_call 139; (with_reducible refine (hN 4 (by decide) _ b1).mono ?_); rintro e w4 ⟨b2, ha⟩; rw [show (4 : Int).toNat = 4 from rfl] at ha; rcases h2 : wNum ws 4 with _ | a2; (rw [h2] at ha; obtain ⟨u, pv, rfl⟩ := ha; exact ⟨rfl, below_step hB0 b2, by rw [h0, Option.bind_some, h1, Option.bind_some, h2]; exact ⟨u, pv, rfl⟩⟩); rw [h2] at ha; replace ha : e = _ := ha; subst ha; have hX := hbk _ b2; have z0 : w4.cell? ⟨w.heap.size, 0, none⟩ = some (.int .i64 0) := (blk_cell hX 0).trans rfl; have y0 := blk_frozen hX 0; have z1 : w4.cell? ⟨w.heap.size, 1, none⟩ = some (.int .i64 0) := (blk_cell hX 1).trans rfl; have y1 := blk_frozen hX 1; have z2 : w4.cell? ⟨w.heap.size, 2, none⟩ = some (.int .i64 0) := (blk_cell hX 2).trans rfl; have y2 := blk_frozen hX 2; have z3 : w4.cell? ⟨w.heap.size, 3, none⟩ = some (.int .i64 0) := (blk_cell hX 3).trans rfl; have y3 := blk_frozen hX 3; have z4 : w4.cell? ⟨w.heap.size, 4, none⟩ = some (.int .i64 0) := (blk_cell hX 4).trans rfl; have y4 := blk_frozen hX 4; have z5 : w4.cell? ⟨w.heap.size, 5, none⟩ = some (.int .i64 0) := (blk_cell hX 5).trans rfl; have y5 := blk_frozen hX 5; have z6 : w4.cell? ⟨w.heap.size, 6, none⟩ = some (.int .i64 0) := (blk_cell hX 6).trans rfl; have y6 := blk_frozen hX 6; have z7 : w4.cell? ⟨w.heap.size, 7, none⟩ = some (.int .i64 0) := (blk_cell hX 7).trans rfl; have y7 := blk_frozen hX 7))
      rw [store8 _ _ _ _ _ _ _ _ hX]
      refine bodyPost_ret (v := .agg #[.int .i64 5, .int .i64 0, .int .i64 0, .int .i64 0, .int .i64 0, .int .i64 a2, .int .i64 a0, .int .i64 a1]) ?_ rfl ⟨hend _ _ b2, by rw [h0, Option.bind_some, h1, Option.bind_some, h2, Option.bind_some]; rfl⟩
      have r0 := blk_cell (World.putObj_heap_same (o := .cells #[.int .i64 5, .int .i64 0, .int .i64 0, .int .i64 0, .int .i64 0, .int .i64 a2, .int .i64 a0, .int .i64 a1] 40 (0, 0)) (Array.getElem?_eq_some_iff.1 hX).1) 0
      have r1 := blk_cell (World.putObj_heap_same (o := .cells #[.int .i64 5, .int .i64 0, .int .i64 0, .int .i64 0, .int .i64 0, .int .i64 a2, .int .i64 a0, .int .i64 a1] 40 (0, 0)) (Array.getElem?_eq_some_iff.1 hX).1) 1
      have r2 := blk_cell (World.putObj_heap_same (o := .cells #[.int .i64 5, .int .i64 0, .int .i64 0, .int .i64 0, .int .i64 0, .int .i64 a2, .int .i64 a0, .int .i64 a1] 40 (0, 0)) (Array.getElem?_eq_some_iff.1 hX).1) 2
      have r3 := blk_cell (World.putObj_heap_same (o := .cells #[.int .i64 5, .int .i64 0, .int .i64 0, .int .i64 0, .int .i64 0, .int .i64 a2, .int .i64 a0, .int .i64 a1] 40 (0, 0)) (Array.getElem?_eq_some_iff.1 hX).1) 3
      have r4 := blk_cell (World.putObj_heap_same (o := .cells #[.int .i64 5, .int .i64 0, .int .i64 0, .int .i64 0, .int .i64 0, .int .i64 a2, .int .i64 a0, .int .i64 a1] 40 (0, 0)) (Array.getElem?_eq_some_iff.1 hX).1) 4
      have r5 := blk_cell (World.putObj_heap_same (o := .cells #[.int .i64 5, .int .i64 0, .int .i64 0, .int .i64 0, .int .i64 0, .int .i64 a2, .int .i64 a0, .int .i64 a1] 40 (0, 0)) (Array.getElem?_eq_some_iff.1 hX).1) 5
      have r6 := blk_cell (World.putObj_heap_same (o := .cells #[.int .i64 5, .int .i64 0, .int .i64 0, .int .i64 0, .int .i64 0, .int .i64 a2, .int .i64 a0, .int .i64 a1] 40 (0, 0)) (Array.getElem?_eq_some_iff.1 hX).1) 6
      have r7 := blk_cell (World.putObj_heap_same (o := .cells #[.int .i64 5, .int .i64 0, .int .i64 0, .int .i64 0, .int .i64 0, .int .i64 a2, .int .i64 a0, .int .i64 a1] 40 (0, 0)) (Array.getElem?_eq_some_iff.1 hX).1) 7
      simp only [List.getElem?_toArray, List.getElem?_cons_zero, List.getElem?_cons_succ] at r0 r1 r2 r3 r4 r5 r6 r7
      simp [results, Tryz.f94, go_sem, r0, r1, r2, r3, r4, r5, r6, r7]
    rw [if_neg k5]
    rw [Bool.not_eq_true] at k5
    by_cases k6 : (v.toList == [119, 97, 116, 101, 114, 115, 104, 101, 100]) = true
    · rw [if_pos k6]
      go_enter Tryz.func94, Tryz.ntmps94
      go_wp2_with (first
        | (go_at_call 138; refine hwd.mono ?_; rintro e w1 ⟨hw1, rfl⟩; replace hw1 := hw1.symm; subst hw1)
        | (go_at_call 139; (with_reducible refine (hN 1 (by decide) _ (Below.refl _ _)).mono ?_); rintro e w2 ⟨b0, ha⟩; rw [show (1 : Int).toNat = 1 from rfl] at ha; rcases h0 : wNum ws 1 with _ | a0; (rw [h0] at ha; obtain ⟨u, pv, rfl⟩ := ha; exact ⟨rfl, below_step hB0 b0, by rw [h0]; exact ⟨u, pv, rfl⟩⟩); rw [h0] at ha; replace ha : e = _ := ha; subst ha)
        | (go_at_call 141; (with_reducible refine (hM 3 (by decide) _ b0).mono ?_); rintro e w3 ⟨b1, ha⟩; rw [show (3 : Int).toNat = 3 from rfl] at ha; rcases h1 : wTime ws 3 with _ | a1; (rw [h1] at ha; obtain ⟨u, pv, rfl⟩ := ha; exact ⟨rfl, below_step hB0 b1, by rw [h0, Option.bind_some, h1]; exact ⟨u, pv, rfl⟩⟩); rw [h1] at ha; replace ha : e = _ := ha; subst ha)
        | (go_at_call 141; (with_reducible refine (hM 5 (by decide) _ b1).mono ?_); rintro e w4 ⟨b2, ha⟩; rw [show (5 : Int).toNat = 5 from rfl] at ha; rcases h2 : wTime ws 5 with _ | a2; (rw [h2] at ha; obtain ⟨u, pv, rfl⟩ := ha; exact ⟨rfl, below_step hB0 b2, by rw [h0, Option.bind_some, h1, Option.bind_some, h2]; exact ⟨u, pv, rfl⟩⟩); rw [h2] at ha; replace ha : e = _ := ha; subst ha; have hX := hbk _ b2; have z0 : w4.cell? ⟨w.heap.size, 0, none⟩ = some (.int .i64 0) := (blk_cell hX 0).trans rfl; have y0 := blk_frozen hX 0; have z1 : w4.cell? ⟨w.heap.size, 1, none⟩ = some (.int .i64 0) := (blk_cell hX 1).trans rfl; have y1 := blk_frozen hX 1; have z2 : w4.cell? ⟨w.heap.size, 2, none⟩ = some (.int .i64 0) := (blk_cell hX 2).trans rfl; have y2 := blk_frozen hX 2; have z3 : w4.cell? ⟨w.heap.size, 3, none⟩ = some (.int .i64 0) := (blk_cell hX 3).trans rfl; have y3 := blk_frozen hX 3; have z4 : w4.cell? ⟨w.heap.size, 4, none⟩ = some (.int .i64 0) := (blk_cell hX 4).trans rfl; have y4 := blk_frozen hX 4; have z5 : w4.cell? ⟨w.heap.size, 5, none⟩ = some (.int .i64 0) := (blk_cell hX 5).trans rfl; have y5 := blk_frozen hX 5; have z6 : w4.cell? ⟨w.heap.size, 6, none⟩ = some (.int .i64 0) := (blk_cell hX 6).trans rfl; have y6 := blk_frozen hX 6; have z7 : w4.cell? ⟨w.heap.size, 7, none⟩ = some (.int .i64 0) := (blk_cell hX 7).trans rfl; have y7 := blk_frozen hX 7))
      rw [store8 _ _ _ _ _ _ _ _ hX]
      refine bodyPost_ret (v := .agg #[.int .i64 6, .int .i64 0, .int .i64 a1, .int .i64 a2, .int .i64 0, .int .i64 0, .int .i64 a0, .int .i64 0]) ?_ rfl ⟨hend _ _ b2, by rw [h0, Option.bind_some, h1, Option.bind_some, h2, Option.bind_some]; rfl⟩
      have r0 := blk_cell (World.putObj_heap_same (o := .cells #[.int .i64 6, .int .i64 0, .int .i64 a1, .int .i64 a2, .int .i64 0, .int .i64 0, .int .i64 a0, .int .i64 0] 40 (0, 0)) (Array.getElem?_eq_some_iff.1 hX).1) 0
      have r1 := blk_cell (World.putObj_heap_same (o := .cells #[.int .i64 6, .int .i64 0, .int .i64 a1, .int .i64 a2, .int .i64 0, .int .i64 0, .int .i64 a0, .int .i64 0] 40 (0, 0)) (Array.getElem?_eq_some_iff.1 hX).1) 1
      have r2 := blk_cell (World.putObj_heap_same (o := .cells #[.int .i64 6, .int .i64 0, .int .i64 a1, .int .i64 a2, .int .i64 0, .int .i64 0, .int .i64 a0, .int .i64 0] 40 (0, 0)) (Array.getElem?_eq_some_iff.1 hX).1) 2
      have r3 := blk_cell (World.putObj_heap_same (o := .cells #[.int .i64 6, .int .i64 0, .int .i64 a1, .int .i64 a2, .int .i64 0, .int .i64 0, .int .i64 a0, .int .i64 0] 40 (0, 0)) (Array.getElem?_eq_some_iff.1 hX).1) 3
      have r4 := blk_cell (World.putObj_heap_same (o := .cells #[.int .i64 6, .int .i64 0, .int .i64 a1, .int .i64 a2, .int .i64 0, .int .i64 0, .int .i64 a0, .int .i64 0] 40 (0, 0)) (Array.getElem?_eq_some_iff.1 hX).1) 4
      have r5 := blk_cell (World.putObj_heap_same (o := .cells #[.int .i64 6, .int .i64 0, .int .i64 a1, .int .i64 a2, .int .i64 0, .int .i64 0, .int .i64 a0, .int .i64 0] 40 (0, 0)) (Array.getElem?_eq_some_iff.1 hX).1) 5
      have r6 := blk_cell (World.putObj_heap_same (o := .cells #[.int .i64 6, .int .i64 0, .int .i64 a1, .int .i64 a2, .int .i64 0, .int .i64 0, .int .i64 a0, .int .i64 0] 40 (0, 0)) (Array.getElem?_eq_some_iff.1 hX).1) 6
      have r7 := blk_cell (World.putObj_heap_same (o := .cells #[.int .i64 6, .int .i64 0, .int .i64 a1, .int .i64 a2, .int .i64 0, .int .i64 0, .int .i64 a0, .int .i64 0] 40 (0, 0)) (Array.getElem?_eq_some_iff.1 hX).1) 7
      simp only [List.getElem?_toArray, List.getElem?_cons_zero, List.getElem?_cons_succ] at r0 r1 r2 r3 r4 r5 r6 r7
      simp [results, Tryz.f94, go_sem, r0, r1, r2, r3, r4, r5, r6, r7]
    rw [if_neg k6]
    rw [Bool.not_eq_true] at k6
    go_enter Tryz.func94, Tryz.ntmps94
    go_wp2_with (go_at_call 138; refine hwd.mono ?_; rintro e w1 ⟨hw1, rfl⟩; replace hw1 := hw1.symm; subst hw1)
    exact ⟨rfl, hB0, te, pe, rfl⟩
end Go.Proofs.YtpefhdjkpdjdpaaGreatDoor.R
namespace Go.Proofs.YtpefhdjkpdjdpaaGreatDoor.R
open Go Go.RowKit Go.Proofs.YtpefhdjkpdjdpaaGreatDoorW.PrintWords Go.Proofs.YtpefhdjkpdjdpaaGreatDoorW.PrintLast Go.Proofs.YtpefhdjkpdjdpaaGreatDoorW.PrintMore
set_option maxRecDepth 100000 in
theorem catch_idle (B0 B1 : Nat) (w : World) :
    CallsD Tryz.prog 92 #[.pointer (some ⟨B0, 0, none⟩), .pointer (some ⟨B1, 0, none⟩)] .returning w fun e u' w' => e = .returned (.tuple #[]) ∧ u' = .returning ∧ w' = w := by
  refine callsD_of_wpS Tryz.func92 rfl fun c₀ cs hu => ?_
  apply wpS_seq
  apply wpS_region
  simp [wpOpsS, go_sem, recoverD, hu, Tryz.ntmps92, Exit.thenS]
  refine wpS_cond (t := false) (by simp [Act.eval, Array.replicate]) ?_
  simp only [Bool.false_eq_true, if_false]
  refine wpS_of_wp (wp_skip ?_)
  cases c₀
  simp_all [bodyPostS, results, Tryz.f92]

set_option maxRecDepth 100000 in
theorem catch_panic (B0 B1 : Nat) (u : TypeId) (pv : Value) (c0 c1 c2 c3 c4 c5 c6 c7 : Value) (b : Bool) (w : World) (h0 : w.heap[B0]? = some (.cells #[c0, c1, c2, c3, c4, c5, c6, c7] 40 (0, 0))) (h1 : w.heap[B1]? = some (.cells #[.bool b] 4 (0, 0))) (hne : B0 ≠ B1) :
    CallsD Tryz.prog 92 #[.pointer (some ⟨B0, 0, none⟩), .pointer (some ⟨B1, 0, none⟩)] (.panicking [{ v := .iface u pv, recovered := false }]) w fun e u' w' =>
      e = .returned (.tuple #[]) ∧ u' = .panicking [{ v := .iface u pv, recovered := true }] ∧ w' = (w.putObj B0 (.cells #[.int .i64 0, .int .i64 0, .int .i64 0, .int .i64 0, .int .i64 0, .int .i64 0, .int .i64 0, .int .i64 0] 40 (0, 0))).setCell ⟨B1, 0, none⟩ (.bool false) := by
  refine callsD_of_wpS Tryz.func92 rfl fun c₀ cs hu => ?_
  apply wpS_seq
  apply wpS_region
  simp [wpOpsS, go_sem, recoverD, hu, Tryz.ntmps92, Exit.thenS]
  refine wpS_cond (t := true) (by simp [Act.eval, Array.replicate]) ?_
  simp only [if_true]
  apply wpS_region
  have z0 : w.cell? ⟨B0, 0, none⟩ = some c0 := (blk_cell h0 0).trans rfl
  have y0 := blk_frozen h0 0
  have z1 : w.cell? ⟨B0, 1, none⟩ = some c1 := (blk_cell h0 1).trans rfl
  have y1 := blk_frozen h0 1
  have z2 : w.cell? ⟨B0, 2, none⟩ = some c2 := (blk_cell h0 2).trans rfl
  have y2 := blk_frozen h0 2
  have z3 : w.cell? ⟨B0, 3, none⟩ = some c3 := (blk_cell h0 3).trans rfl
  have y3 := blk_frozen h0 3
  have z4 : w.cell? ⟨B0, 4, none⟩ = some c4 := (blk_cell h0 4).trans rfl
  have y4 := blk_frozen h0 4
  have z5 : w.cell? ⟨B0, 5, none⟩ = some c5 := (blk_cell h0 5).trans rfl
  have y5 := blk_frozen h0 5
  have z6 : w.cell? ⟨B0, 6, none⟩ = some c6 := (blk_cell h0 6).trans rfl
  have y6 := blk_frozen h0 6
  have z7 : w.cell? ⟨B0, 7, none⟩ = some c7 := (blk_cell h0 7).trans rfl
  have y7 := blk_frozen h0 7
  have z8 : w.cell? ⟨B1, 0, none⟩ = some (.bool b) := (blk_cell h1 0).trans rfl
  have y8 := blk_frozen h1 0
  simp [wpOpsS, go_sem, z0, z1, z2, z3, z4, z5, z6, z7, z8, y0, y1, y2, y3, y4, y5, y6, y7, y8]
  rw [store8 _ _ _ _ _ _ _ _ h0]
  simp [bodyPostS, results, Tryz.f92]

/-- The words of a line. -/
def wordsIn (s : ByteArray) : List ByteArray := Lib.splitB ⟨#[32]⟩ 0 (Lib.countB s ⟨#[32]⟩) s
theorem wordsIn_length (s : ByteArray) : (wordsIn s).length = Lib.countB s ⟨#[32]⟩ + 1 := Lib.splitB_all ⟨#[32]⟩ (by decide) 0 _ s rfl
theorem split_pieces (c : UInt8) : ∀ (k : Nat) (l : List UInt8), Lib.count l [c] = k → Lib.splitK [c] 0 k l = pieces c l
  | 0, l, h => by
    rw [Lib.splitK]
    by_cases hi : Lib.indexByte l c < 0
    · exact (pieces_miss c l hi).symm
    · obtain ⟨j, hj⟩ : ∃ j : Nat, Lib.indexByte l c = (j : Int) := ⟨(Lib.indexByte l c).toNat, by omega⟩
      have := Lib.count_hit (s := l) (sub := [c]) (by simp) ((Lib.index_one l c).trans hj)
      omega
  | k + 1, l, h => by
    rw [Lib.splitK]
    by_cases hi : Lib.indexByte l c < 0
    · have hg := Lib.indexByte_ge l c
      have hm : Lib.index l [c] = -1 := by rw [Lib.index_one]; omega
      have := Lib.count_miss hm
      omega
    · obtain ⟨j, hj⟩ : ∃ j : Nat, Lib.indexByte l c = (j : Int) := ⟨(Lib.indexByte l c).toNat, by omega⟩
      have hix : Lib.index l [c] = (j : Int) := (Lib.index_one l c).trans hj
      have hc := Lib.count_hit (s := l) (sub := [c]) (by simp) hix
      rw [if_neg (by rw [hix]; intro e; have := beq_iff_eq.1 e; omega), hix, (pieces_hit c l j hj).2, split_pieces c k _ (by simp at hc ⊢; omega)]
      rfl
theorem wordsIn_pieces (s : ByteArray) : wordsIn s = (pieces 32 s.data.toList).map tx := by
  have h := Lib.splitB_data ⟨#[32]⟩ 0 (Lib.countB s ⟨#[32]⟩) s
  rw [show (⟨#[32]⟩ : ByteArray).data.toList = [32] from rfl, split_pieces 32 _ _ rfl] at h
  rw [← h, List.map_map]
  exact ((List.map_congr_left (g := id) (fun x _ => tx_of x)).trans (List.map_id _)).symm
/-- What read answers. -/
def readOf (s : ByteArray) : S40 × Bool := match clauseOf (wordsIn s) with
  | some c => if vld c = true ∧ tx (lineL c) = s then (c, true) else (z40, false)
  | none => (z40, false)

theorem cell_end {W : World} {B0 B1 : Nat} (x : S40) (b : Bool) (h0 : W.heap[B0]? = some (.cells #[.int .i64 x.f0, .int .i64 x.f1, .int .i64 x.f2, .int .i64 x.f3, .int .i64 x.f4, .int .i64 x.f5, .int .i64 x.f6, .int .i64 x.f7] 40 (0, 0))) (h1 : W.heap[B1]? = some (.cells #[.bool b] 4 (0, 0))) (tmps : Array Value) (h2 : tmps[2]? = some (.pointer (some ⟨B0, 0, none⟩))) (h3 : tmps[3]? = some (.pointer (some ⟨B1, 0, none⟩))) :
    (results Tryz.f42 tmps).run Tryz.prog W = .ok (.tuple #[agg40 x, .bool b]) W := by
  have r0 := blk_cell h0 0
  have r1 := blk_cell h0 1
  have r2 := blk_cell h0 2
  have r3 := blk_cell h0 3
  have r4 := blk_cell h0 4
  have r5 := blk_cell h0 5
  have r6 := blk_cell h0 6
  have r7 := blk_cell h0 7
  have r8 := blk_cell h1 0
  simp only [List.getElem?_toArray, List.getElem?_cons_zero, List.getElem?_cons_succ] at r0 r1 r2 r3 r4 r5 r6 r7 r8
  have hu40 := Tryz.underlying40
  simp [results, Tryz.f42, go_sem, h2, h3, r0, r1, r2, r3, r4, r5, r6, r7, r8, agg40]

theorem read_pan {w w3 : World} {tmps : Array Value} {u : TypeId} {pv c0 c1 c2 c3 c4 c5 c6 c7 : Value} {b : Bool} (h2 : tmps[2]? = some (.pointer (some ⟨w.heap.size, 0, none⟩))) (h3 : tmps[3]? = some (.pointer (some ⟨w.heap.size + 1, 0, none⟩))) (h0 : w3.heap[w.heap.size]? = some (.cells #[c0, c1, c2, c3, c4, c5, c6, c7] 40 (0, 0))) (h1 : w3.heap[w.heap.size + 1]? = some (.cells #[.bool b] 4 (0, 0))) (hb : Below w.heap.size w w3) :
    Leaves Tryz.prog Tryz.f42 tmps (fun e w' => Below w.heap.size w w' ∧ e = .returned (.tuple #[agg40 z40, .bool false])) [{ target := .fn (.func 92) #[.pointer (some ⟨w.heap.size, 0, none⟩), .pointer (some ⟨w.heap.size + 1, 0, none⟩)], args := #[] }] (.panicking [{ v := .iface u pv, recovered := false }]) w3 := by
  refine leaves_cons (f := 92) (args := #[.pointer (some ⟨w.heap.size, 0, none⟩), .pointer (some ⟨w.heap.size + 1, 0, none⟩)]) (by simp) (by simp [go_sem]) ?_
  refine (catch_panic w.heap.size (w.heap.size + 1) u pv c0 c1 c2 c3 c4 c5 c6 c7 b w3 h0 h1 (by omega)).mono ?_
  rintro e u' w'' ⟨rfl, rfl, rfl⟩
  have hlt := (Array.getElem?_eq_some_iff.1 h0).1
  have hp1 : (w3.putObj w.heap.size (.cells #[.int .i64 0, .int .i64 0, .int .i64 0, .int .i64 0, .int .i64 0, .int .i64 0, .int .i64 0, .int .i64 0] 40 (0, 0))).heap[w.heap.size + 1]? = some (.cells #[.bool b] 4 (0, 0)) := (World.putObj_heap_other (by omega)).trans h1
  have hlt1 := (Array.getElem?_eq_some_iff.1 hp1).1
  have hw := setCell_at _ (w.heap.size + 1) _ 4 (0, 0) 0 (.bool false) hp1
  rw [hw]
  refine ⟨_, cell_end z40 false ((World.putObj_heap_other (by omega)).trans (World.putObj_heap_same hlt)) (World.putObj_heap_same hlt1) tmps h2 h3, ?_, rfl⟩
  have hb' : Below w.heap.size w (w3.putObj w.heap.size (.cells #[.int .i64 0, .int .i64 0, .int .i64 0, .int .i64 0, .int .i64 0, .int .i64 0, .int .i64 0, .int .i64 0] 40 (0, 0))) := below_putObj hb (Nat.le_refl _) h0 _
  exact below_putObj hb' (by omega) hp1 _

theorem read_ok {w w5 : World} {tmps : Array Value} {cs : Array Value} (x : S40) (h2 : tmps[2]? = some (.pointer (some ⟨w.heap.size, 0, none⟩))) (h3 : tmps[3]? = some (.pointer (some ⟨w.heap.size + 1, 0, none⟩))) (h0 : w5.heap[w.heap.size]? = some (.cells cs 40 (0, 0))) (h1 : w5.heap[w.heap.size + 1]? = some (.cells #[.bool false] 4 (0, 0))) (hb : Below w.heap.size w w5) :
    Leaves Tryz.prog Tryz.f42 tmps (fun e w' => Below w.heap.size w w' ∧ e = .returned (.tuple #[agg40 x, .bool true])) [{ target := .fn (.func 92) #[.pointer (some ⟨w.heap.size, 0, none⟩), .pointer (some ⟨w.heap.size + 1, 0, none⟩)], args := #[] }] .returning ((w5.putObj w.heap.size (.cells #[.int .i64 x.f0, .int .i64 x.f1, .int .i64 x.f2, .int .i64 x.f3, .int .i64 x.f4, .int .i64 x.f5, .int .i64 x.f6, .int .i64 x.f7] 40 (0, 0))).setCell ⟨w.heap.size + 1, 0, none⟩ (.bool true)) := by
  refine leaves_cons (f := 92) (args := #[.pointer (some ⟨w.heap.size, 0, none⟩), .pointer (some ⟨w.heap.size + 1, 0, none⟩)]) (by simp) (by simp [go_sem]) ?_
  refine (catch_idle w.heap.size (w.heap.size + 1) _).mono ?_
  rintro e u' w'' ⟨rfl, rfl, rfl⟩
  have hlt := (Array.getElem?_eq_some_iff.1 h0).1
  have hp1 : (w5.putObj w.heap.size (.cells #[.int .i64 x.f0, .int .i64 x.f1, .int .i64 x.f2, .int .i64 x.f3, .int .i64 x.f4, .int .i64 x.f5, .int .i64 x.f6, .int .i64 x.f7] 40 (0, 0))).heap[w.heap.size + 1]? = some (.cells #[.bool false] 4 (0, 0)) := (World.putObj_heap_other (by omega)).trans h1
  have hlt1 := (Array.getElem?_eq_some_iff.1 hp1).1
  have hw := setCell_at _ (w.heap.size + 1) _ 4 (0, 0) 0 (.bool true) hp1
  rw [hw]
  refine ⟨_, cell_end x true ((World.putObj_heap_other (by omega)).trans (World.putObj_heap_same hlt)) (World.putObj_heap_same hlt1) tmps h2 h3, ?_, rfl⟩
  have hb' : Below w.heap.size w (w5.putObj w.heap.size (.cells #[.int .i64 x.f0, .int .i64 x.f1, .int .i64 x.f2, .int .i64 x.f3, .int .i64 x.f4, .int .i64 x.f5, .int .i64 x.f6, .int .i64 x.f7] 40 (0, 0))) := below_putObj hb (Nat.le_refl _) h0 _
  exact below_putObj hb' (by omega) hp1 _

set_option maxRecDepth 100000 in
set_option maxHeartbeats 8000000 in
theorem read_calls (s : ByteArray) (hs : s.size ≤ 1000000) (w : World) (hT : TabW w) :
    Calls Tryz.prog 42 #[.string s] w fun e w' => Below w.heap.size w w' ∧ e = .returned (.tuple #[agg40 (readOf s).1, .bool (readOf s).2]) := by
  have hmf : ∀ (fn : Fn) (first cap : Array Value) (w : World), (Instr.makeFunc fn first cap).run Tryz.prog w = .ok (.func fn first cap) w := fun _ _ _ _ => rfl
  obtain ⟨m, hm⟩ := hT.maxLen
  obtain ⟨te, pe, hg⟩ := hT.word
  have hb1 : Below w.heap.size w ((w.alloc (.cells #[.int .i64 0, .int .i64 0, .int .i64 0, .int .i64 0, .int .i64 0, .int .i64 0, .int .i64 0, .int .i64 0] 40)).alloc (.cells #[.bool false] 4)) := below_alloc (below_alloc (Below.refl _ _) _) _
  have hk0 : ((w.alloc (.cells #[.int .i64 0, .int .i64 0, .int .i64 0, .int .i64 0, .int .i64 0, .int .i64 0, .int .i64 0, .int .i64 0] 40)).alloc (.cells #[.bool false] 4)).heap[w.heap.size]? = some (.cells #[.int .i64 0, .int .i64 0, .int .i64 0, .int .i64 0, .int .i64 0, .int .i64 0, .int .i64 0, .int .i64 0] 40 (0, 0)) := (Below.heap_alloc _ _ _ (by simp)).trans (World.alloc_heap_new w _)
  have hk1 : ((w.alloc (.cells #[.int .i64 0, .int .i64 0, .int .i64 0, .int .i64 0, .int .i64 0, .int .i64 0, .int .i64 0, .int .i64 0] 40)).alloc (.cells #[.bool false] 4)).heap[w.heap.size + 1]? = some (.cells #[.bool false] 4 (0, 0)) := by have := World.alloc_heap_new (w.alloc (.cells #[.int .i64 0, .int .i64 0, .int .i64 0, .int .i64 0, .int .i64 0, .int .i64 0, .int .i64 0, .int .i64 0] 40)) (.cells #[.bool false] 4); rwa [World.size_alloc] at this
  obtain ⟨W1, hW1⟩ : ∃ W1, (w.alloc (.cells #[.int .i64 0, .int .i64 0, .int .i64 0, .int .i64 0, .int .i64 0, .int .i64 0, .int .i64 0, .int .i64 0] 40)).alloc (.cells #[.bool false] 4) = W1 := ⟨_, rfl⟩
  rw [hW1] at hb1 hk0 hk1
  have hsp := Tryz.strings_Split s ⟨#[32]⟩ m W1 (by omega) (pw_cell_below hb1 hm) (by decide)
  rw [show Lib.splitB ⟨#[32]⟩ 0 (Lib.countB s ⟨#[32]⟩) s = wordsIn s from rfl, ← wordsIn_length] at hsp
  have hb2 : Below W1.heap.size W1 (W1.alloc (.cells ((wordsIn s).map Value.string).toArray 9)) := below_alloc (Below.refl _ _) _
  have hwl : (wordsIn s).length ≤ 9223372036854775807 := by
    have h1 := pieces_len 32 s.data.toList
    have h2 : s.data.toList.length = s.size := Array.length_toList
    rw [wordsIn_pieces, List.length_map]
    omega
  have hws : ∀ z ∈ wordsIn s, z.size ≤ 1000000 := by
    intro z hz
    rw [wordsIn_pieces] at hz
    obtain ⟨y, hy, rfl⟩ := List.mem_map.1 hz
    have h1 := pieces_le 32 s.data.toList y hy
    have h2 : s.data.toList.length = s.size := Array.length_toList
    rw [tx_size]
    omega
  have hcl := clause_calls (some ⟨W1.heap.size, 0, none⟩) (wordsIn s).length (wordsIn s) _ (strs_new W1 9 (wordsIn s) hwl) hws ((hT.below hb1).below hb2)
  have hkk : ∀ W, Below (W1.alloc (.cells ((wordsIn s).map Value.string).toArray 9)).heap.size (W1.alloc (.cells ((wordsIn s).map Value.string).toArray 9)) W → W.heap[w.heap.size]? = some (.cells #[.int .i64 0, .int .i64 0, .int .i64 0, .int .i64 0, .int .i64 0, .int .i64 0, .int .i64 0, .int .i64 0] 40 (0, 0)) ∧ W.heap[w.heap.size + 1]? = some (.cells #[.bool false] 4 (0, 0)) := fun W hb =>
    have hb' := below_step hb2 hb
    ⟨(hb'.block _ (Array.getElem?_eq_some_iff.1 hk0).1).trans hk0, (hb'.block _ (Array.getElem?_eq_some_iff.1 hk1).1).trans hk1⟩
  unfold readOf
  cases hc : clauseOf (wordsIn s) with
  | none =>
    rw [hc] at hcl
    go_enter_defers Tryz.func42, Tryz.ntmps42
    go_wp2_with (first
      | (go_at_call 93; refine hsp.mono ?_; rintro e w2 ⟨rfl, rfl⟩)
      | (go_at_call 94; refine hcl.mono ?_; rintro e w3 ⟨hb3, u, pv, rfl⟩))
    exact read_pan rfl rfl (hkk w3 hb3).1 (hkk w3 hb3).2 (below_step (below_step hb1 hb2) hb3)
  | some x =>
    rw [hc] at hcl
    simp only [Ans, agg40] at hcl
    have hp : ∀ W3, Below (W1.alloc (.cells ((wordsIn s).map Value.string).toArray 9)).heap.size (W1.alloc (.cells ((wordsIn s).map Value.string).toArray 9)) W3 → ∀ W4, Below (W3.putObj w.heap.size (.cells #[.int .i64 x.f0, .int .i64 x.f1, .int .i64 x.f2, .int .i64 x.f3, .int .i64 x.f4, .int .i64 x.f5, .int .i64 x.f6, .int .i64 x.f7] 40 (0, 0))).heap.size (W3.putObj w.heap.size (.cells #[.int .i64 x.f0, .int .i64 x.f1, .int .i64 x.f2, .int .i64 x.f3, .int .i64 x.f4, .int .i64 x.f5, .int .i64 x.f6, .int .i64 x.f7] 40 (0, 0))) W4 →
        W4.heap[w.heap.size]? = some (.cells #[.int .i64 x.f0, .int .i64 x.f1, .int .i64 x.f2, .int .i64 x.f3, .int .i64 x.f4, .int .i64 x.f5, .int .i64 x.f6, .int .i64 x.f7] 40 (0, 0)) ∧ W4.heap[w.heap.size + 1]? = some (.cells #[.bool false] 4 (0, 0)) ∧ Below w.heap.size w W4 := fun W3 h3 W4 h4 => by
      obtain ⟨k0, k1⟩ := hkk W3 h3
      have l0 := (Array.getElem?_eq_some_iff.1 k0).1
      have l1 := (Array.getElem?_eq_some_iff.1 k1).1
      have hbp := below_putObj (below_step (below_step hb1 hb2) h3) (Nat.le_refl _) k0 (.cells #[.int .i64 x.f0, .int .i64 x.f1, .int .i64 x.f2, .int .i64 x.f3, .int .i64 x.f4, .int .i64 x.f5, .int .i64 x.f6, .int .i64 x.f7] 40 (0, 0))
      exact ⟨(h4.block _ (by simpa using l0)).trans (World.putObj_heap_same l0), (h4.block _ (by simpa using l1)).trans ((World.putObj_heap_other (by omega)).trans k1), below_step hbp h4⟩
    by_cases hv : vld x = true
    · have vf := valid_f 0 x
      have lf := line_f x hv
      rw [hv] at vf
      by_cases hln : tx (lineL x) = s
      · simp only []
        rw [if_pos ⟨hv, hln⟩]
        have hq : ((tx (lineL x)).toList == s.toList) = true := by rw [hln]; simp
        go_enter_defers Tryz.func42, Tryz.ntmps42
        go_wp2_with (first
          | (go_at_call 93; refine hsp.mono ?_; rintro e w2 ⟨rfl, rfl⟩)
          | (go_at_call 94; refine hcl.mono ?_; rintro e w3 ⟨hb3, rfl⟩; have hX := (hkk w3 hb3).1; have z0 : w3.cell? ⟨w.heap.size, 0, none⟩ = some (.int .i64 0) := (blk_cell hX 0).trans rfl; have y0 := blk_frozen hX 0; have z1 : w3.cell? ⟨w.heap.size, 1, none⟩ = some (.int .i64 0) := (blk_cell hX 1).trans rfl; have y1 := blk_frozen hX 1; have z2 : w3.cell? ⟨w.heap.size, 2, none⟩ = some (.int .i64 0) := (blk_cell hX 2).trans rfl; have y2 := blk_frozen hX 2; have z3 : w3.cell? ⟨w.heap.size, 3, none⟩ = some (.int .i64 0) := (blk_cell hX 3).trans rfl; have y3 := blk_frozen hX 3; have z4 : w3.cell? ⟨w.heap.size, 4, none⟩ = some (.int .i64 0) := (blk_cell hX 4).trans rfl; have y4 := blk_frozen hX 4; have z5 : w3.cell? ⟨w.heap.size, 5, none⟩ = some (.int .i64 0) := (blk_cell hX 5).trans rfl; have y5 := blk_frozen hX 5; have z6 : w3.cell? ⟨w.heap.size, 6, none⟩ = some (.int .i64 0) := (blk_cell hX 6).trans rfl; have y6 := blk_frozen hX 6; have z7 : w3.cell? ⟨w.heap.size, 7, none⟩ = some (.int .i64 0) := (blk_cell hX 7).trans rfl; have y7 := blk_frozen hX 7; clear hcl)
          | (go_at_call 24; rw [store8 _ _ _ _ _ _ _ _ hX]; refine (rights_Valid.calls _ x.f0 x.f1 x.f2 x.f3 x.f4 x.f5 x.f6 x.f7 _ _ vf).mono ?_; rintro e w4 ⟨rfl, hb4⟩; obtain ⟨hX4, hY4, hb4'⟩ := hp w3 hb3 w4 hb4; have hg4 := pw_cell_below hb4' hg; clear z0 z1 z2 z3 z4 z5 z6 z7 y0 y1 y2 y3 y4 y5 y6 y7 hX; have z0 : w4.cell? ⟨w.heap.size, 0, none⟩ = some (.int .i64 x.f0) := (blk_cell hX4 0).trans rfl; have y0 := blk_frozen hX4 0; have z1 : w4.cell? ⟨w.heap.size, 1, none⟩ = some (.int .i64 x.f1) := (blk_cell hX4 1).trans rfl; have y1 := blk_frozen hX4 1; have z2 : w4.cell? ⟨w.heap.size, 2, none⟩ = some (.int .i64 x.f2) := (blk_cell hX4 2).trans rfl; have y2 := blk_frozen hX4 2; have z3 : w4.cell? ⟨w.heap.size, 3, none⟩ = some (.int .i64 x.f3) := (blk_cell hX4 3).trans rfl; have y3 := blk_frozen hX4 3; have z4 : w4.cell? ⟨w.heap.size, 4, none⟩ = some (.int .i64 x.f4) := (blk_cell hX4 4).trans rfl; have y4 := blk_frozen hX4 4; have z5 : w4.cell? ⟨w.heap.size, 5, none⟩ = some (.int .i64 x.f5) := (blk_cell hX4 5).trans rfl; have y5 := blk_frozen hX4 5; have z6 : w4.cell? ⟨w.heap.size, 6, none⟩ = some (.int .i64 x.f6) := (blk_cell hX4 6).trans rfl; have y6 := blk_frozen hX4 6; have z7 : w4.cell? ⟨w.heap.size, 7, none⟩ = some (.int .i64 x.f7) := (blk_cell hX4 7).trans rfl; have y7 := blk_frozen hX4 7)
          | (go_at_call 38; refine (rights_line.calls _ x.f0 x.f1 x.f2 x.f3 x.f4 x.f5 x.f6 x.f7 _ _ lf (hT.below hb4')).mono ?_; rintro e w5 ⟨rfl, hb5⟩; obtain ⟨hX5, hY5, hb5'⟩ := hp w3 hb3 w5 (below_step hb4 hb5); have hg5 := pw_cell_below hb5' hg; clear z0 z1 z2 z3 z4 z5 z6 z7 y0 y1 y2 y3 y4 y5 y6 y7; have z0 : w5.cell? ⟨w.heap.size, 0, none⟩ = some (.int .i64 x.f0) := (blk_cell hX5 0).trans rfl; have y0 := blk_frozen hX5 0; have z1 : w5.cell? ⟨w.heap.size, 1, none⟩ = some (.int .i64 x.f1) := (blk_cell hX5 1).trans rfl; have y1 := blk_frozen hX5 1; have z2 : w5.cell? ⟨w.heap.size, 2, none⟩ = some (.int .i64 x.f2) := (blk_cell hX5 2).trans rfl; have y2 := blk_frozen hX5 2; have z3 : w5.cell? ⟨w.heap.size, 3, none⟩ = some (.int .i64 x.f3) := (blk_cell hX5 3).trans rfl; have y3 := blk_frozen hX5 3; have z4 : w5.cell? ⟨w.heap.size, 4, none⟩ = some (.int .i64 x.f4) := (blk_cell hX5 4).trans rfl; have y4 := blk_frozen hX5 4; have z5 : w5.cell? ⟨w.heap.size, 5, none⟩ = some (.int .i64 x.f5) := (blk_cell hX5 5).trans rfl; have y5 := blk_frozen hX5 5; have z6 : w5.cell? ⟨w.heap.size, 6, none⟩ = some (.int .i64 x.f6) := (blk_cell hX5 6).trans rfl; have y6 := blk_frozen hX5 6; have z7 : w5.cell? ⟨w.heap.size, 7, none⟩ = some (.int .i64 x.f7) := (blk_cell hX5 7).trans rfl; have y7 := blk_frozen hX5 7; have z8 : w5.cell? ⟨w.heap.size + 1, 0, none⟩ = some (.bool false) := (blk_cell hY5 0).trans rfl; have y8 := blk_frozen hY5 0))
        rw [store8 _ _ _ _ _ _ _ _ hX5]
        exact read_ok x rfl rfl hX5 hY5 hb5'
      · simp only []
        rw [if_neg (fun h => hln h.2)]
        have hq : ((tx (lineL x)).toList == s.toList) = false := by
          apply beq_eq_false_iff_ne.2
          intro h
          rw [Lib.toList_data, Lib.toList_data] at h
          exact hln (by rw [← tx_of s, ← h, tx_of])
        go_enter_defers Tryz.func42, Tryz.ntmps42
        go_wp2_with (first
          | (go_at_call 93; refine hsp.mono ?_; rintro e w2 ⟨rfl, rfl⟩)
          | (go_at_call 94; refine hcl.mono ?_; rintro e w3 ⟨hb3, rfl⟩; have hX := (hkk w3 hb3).1; have z0 : w3.cell? ⟨w.heap.size, 0, none⟩ = some (.int .i64 0) := (blk_cell hX 0).trans rfl; have y0 := blk_frozen hX 0; have z1 : w3.cell? ⟨w.heap.size, 1, none⟩ = some (.int .i64 0) := (blk_cell hX 1).trans rfl; have y1 := blk_frozen hX 1; have z2 : w3.cell? ⟨w.heap.size, 2, none⟩ = some (.int .i64 0) := (blk_cell hX 2).trans rfl; have y2 := blk_frozen hX 2; have z3 : w3.cell? ⟨w.heap.size, 3, none⟩ = some (.int .i64 0) := (blk_cell hX 3).trans rfl; have y3 := blk_frozen hX 3; have z4 : w3.cell? ⟨w.heap.size, 4, none⟩ = some (.int .i64 0) := (blk_cell hX 4).trans rfl; have y4 := blk_frozen hX 4; have z5 : w3.cell? ⟨w.heap.size, 5, none⟩ = some (.int .i64 0) := (blk_cell hX 5).trans rfl; have y5 := blk_frozen hX 5; have z6 : w3.cell? ⟨w.heap.size, 6, none⟩ = some (.int .i64 0) := (blk_cell hX 6).trans rfl; have y6 := blk_frozen hX 6; have z7 : w3.cell? ⟨w.heap.size, 7, none⟩ = some (.int .i64 0) := (blk_cell hX 7).trans rfl; have y7 := blk_frozen hX 7; clear hcl)
          | (go_at_call 24; rw [store8 _ _ _ _ _ _ _ _ hX]; refine (rights_Valid.calls _ x.f0 x.f1 x.f2 x.f3 x.f4 x.f5 x.f6 x.f7 _ _ vf).mono ?_; rintro e w4 ⟨rfl, hb4⟩; obtain ⟨hX4, hY4, hb4'⟩ := hp w3 hb3 w4 hb4; have hg4 := pw_cell_below hb4' hg; clear z0 z1 z2 z3 z4 z5 z6 z7 y0 y1 y2 y3 y4 y5 y6 y7 hX; have z0 : w4.cell? ⟨w.heap.size, 0, none⟩ = some (.int .i64 x.f0) := (blk_cell hX4 0).trans rfl; have y0 := blk_frozen hX4 0; have z1 : w4.cell? ⟨w.heap.size, 1, none⟩ = some (.int .i64 x.f1) := (blk_cell hX4 1).trans rfl; have y1 := blk_frozen hX4 1; have z2 : w4.cell? ⟨w.heap.size, 2, none⟩ = some (.int .i64 x.f2) := (blk_cell hX4 2).trans rfl; have y2 := blk_frozen hX4 2; have z3 : w4.cell? ⟨w.heap.size, 3, none⟩ = some (.int .i64 x.f3) := (blk_cell hX4 3).trans rfl; have y3 := blk_frozen hX4 3; have z4 : w4.cell? ⟨w.heap.size, 4, none⟩ = some (.int .i64 x.f4) := (blk_cell hX4 4).trans rfl; have y4 := blk_frozen hX4 4; have z5 : w4.cell? ⟨w.heap.size, 5, none⟩ = some (.int .i64 x.f5) := (blk_cell hX4 5).trans rfl; have y5 := blk_frozen hX4 5; have z6 : w4.cell? ⟨w.heap.size, 6, none⟩ = some (.int .i64 x.f6) := (blk_cell hX4 6).trans rfl; have y6 := blk_frozen hX4 6; have z7 : w4.cell? ⟨w.heap.size, 7, none⟩ = some (.int .i64 x.f7) := (blk_cell hX4 7).trans rfl; have y7 := blk_frozen hX4 7)
          | (go_at_call 38; refine (rights_line.calls _ x.f0 x.f1 x.f2 x.f3 x.f4 x.f5 x.f6 x.f7 _ _ lf (hT.below hb4')).mono ?_; rintro e w5 ⟨rfl, hb5⟩; obtain ⟨hX5, hY5, hb5'⟩ := hp w3 hb3 w5 (below_step hb4 hb5); have hg5 := pw_cell_below hb5' hg; clear z0 z1 z2 z3 z4 z5 z6 z7 y0 y1 y2 y3 y4 y5 y6 y7; have z0 : w5.cell? ⟨w.heap.size, 0, none⟩ = some (.int .i64 x.f0) := (blk_cell hX5 0).trans rfl; have y0 := blk_frozen hX5 0; have z1 : w5.cell? ⟨w.heap.size, 1, none⟩ = some (.int .i64 x.f1) := (blk_cell hX5 1).trans rfl; have y1 := blk_frozen hX5 1; have z2 : w5.cell? ⟨w.heap.size, 2, none⟩ = some (.int .i64 x.f2) := (blk_cell hX5 2).trans rfl; have y2 := blk_frozen hX5 2; have z3 : w5.cell? ⟨w.heap.size, 3, none⟩ = some (.int .i64 x.f3) := (blk_cell hX5 3).trans rfl; have y3 := blk_frozen hX5 3; have z4 : w5.cell? ⟨w.heap.size, 4, none⟩ = some (.int .i64 x.f4) := (blk_cell hX5 4).trans rfl; have y4 := blk_frozen hX5 4; have z5 : w5.cell? ⟨w.heap.size, 5, none⟩ = some (.int .i64 x.f5) := (blk_cell hX5 5).trans rfl; have y5 := blk_frozen hX5 5; have z6 : w5.cell? ⟨w.heap.size, 6, none⟩ = some (.int .i64 x.f6) := (blk_cell hX5 6).trans rfl; have y6 := blk_frozen hX5 6; have z7 : w5.cell? ⟨w.heap.size, 7, none⟩ = some (.int .i64 x.f7) := (blk_cell hX5 7).trans rfl; have y7 := blk_frozen hX5 7; have z8 : w5.cell? ⟨w.heap.size + 1, 0, none⟩ = some (.bool false) := (blk_cell hY5 0).trans rfl; have y8 := blk_frozen hY5 0))
        exact read_pan rfl rfl hX5 hY5 hb5'
    · have vf := valid_f 0 x
      simp only []
      rw [if_neg (fun h => hv h.1)]
      rw [Bool.not_eq_true] at hv
      rw [hv] at vf
      go_enter_defers Tryz.func42, Tryz.ntmps42
      go_wp2_with (first
        | (go_at_call 93; refine hsp.mono ?_; rintro e w2 ⟨rfl, rfl⟩)
        | (go_at_call 94; refine hcl.mono ?_; rintro e w3 ⟨hb3, rfl⟩; have hX := (hkk w3 hb3).1; have z0 : w3.cell? ⟨w.heap.size, 0, none⟩ = some (.int .i64 0) := (blk_cell hX 0).trans rfl; have y0 := blk_frozen hX 0; have z1 : w3.cell? ⟨w.heap.size, 1, none⟩ = some (.int .i64 0) := (blk_cell hX 1).trans rfl; have y1 := blk_frozen hX 1; have z2 : w3.cell? ⟨w.heap.size, 2, none⟩ = some (.int .i64 0) := (blk_cell hX 2).trans rfl; have y2 := blk_frozen hX 2; have z3 : w3.cell? ⟨w.heap.size, 3, none⟩ = some (.int .i64 0) := (blk_cell hX 3).trans rfl; have y3 := blk_frozen hX 3; have z4 : w3.cell? ⟨w.heap.size, 4, none⟩ = some (.int .i64 0) := (blk_cell hX 4).trans rfl; have y4 := blk_frozen hX 4; have z5 : w3.cell? ⟨w.heap.size, 5, none⟩ = some (.int .i64 0) := (blk_cell hX 5).trans rfl; have y5 := blk_frozen hX 5; have z6 : w3.cell? ⟨w.heap.size, 6, none⟩ = some (.int .i64 0) := (blk_cell hX 6).trans rfl; have y6 := blk_frozen hX 6; have z7 : w3.cell? ⟨w.heap.size, 7, none⟩ = some (.int .i64 0) := (blk_cell hX 7).trans rfl; have y7 := blk_frozen hX 7; clear hcl)
        | (go_at_call 24; rw [store8 _ _ _ _ _ _ _ _ hX]; refine (rights_Valid.calls _ x.f0 x.f1 x.f2 x.f3 x.f4 x.f5 x.f6 x.f7 _ _ vf).mono ?_; rintro e w4 ⟨rfl, hb4⟩; obtain ⟨hX4, hY4, hb4'⟩ := hp w3 hb3 w4 hb4; have hg4 := pw_cell_below hb4' hg; clear z0 z1 z2 z3 z4 z5 z6 z7 y0 y1 y2 y3 y4 y5 y6 y7 hX; have z0 : w4.cell? ⟨w.heap.size, 0, none⟩ = some (.int .i64 x.f0) := (blk_cell hX4 0).trans rfl; have y0 := blk_frozen hX4 0; have z1 : w4.cell? ⟨w.heap.size, 1, none⟩ = some (.int .i64 x.f1) := (blk_cell hX4 1).trans rfl; have y1 := blk_frozen hX4 1; have z2 : w4.cell? ⟨w.heap.size, 2, none⟩ = some (.int .i64 x.f2) := (blk_cell hX4 2).trans rfl; have y2 := blk_frozen hX4 2; have z3 : w4.cell? ⟨w.heap.size, 3, none⟩ = some (.int .i64 x.f3) := (blk_cell hX4 3).trans rfl; have y3 := blk_frozen hX4 3; have z4 : w4.cell? ⟨w.heap.size, 4, none⟩ = some (.int .i64 x.f4) := (blk_cell hX4 4).trans rfl; have y4 := blk_frozen hX4 4; have z5 : w4.cell? ⟨w.heap.size, 5, none⟩ = some (.int .i64 x.f5) := (blk_cell hX4 5).trans rfl; have y5 := blk_frozen hX4 5; have z6 : w4.cell? ⟨w.heap.size, 6, none⟩ = some (.int .i64 x.f6) := (blk_cell hX4 6).trans rfl; have y6 := blk_frozen hX4 6; have z7 : w4.cell? ⟨w.heap.size, 7, none⟩ = some (.int .i64 x.f7) := (blk_cell hX4 7).trans rfl; have y7 := blk_frozen hX4 7))
      exact read_pan rfl rfl hX4 hY4 hb4'
end Go.Proofs.YtpefhdjkpdjdpaaGreatDoor.R
namespace Go.Proofs.YtpefhdjkpdjdpaaGreatDoor.R
open Go Go.RowKit Go.Proofs.YtpefhdjkpdjdpaaGreatDoorW.PrintWords Go.Proofs.YtpefhdjkpdjdpaaGreatDoorW.PrintLast Go.Proofs.YtpefhdjkpdjdpaaGreatDoorW.PrintMore
theorem sz73 : ∃ j, Tryz.prog.info? 73 = some j ∧ j.size = 2 := Option.map_eq_some_iff.1 (by kernel_rfl : (Tryz.prog.info? 73).map (·.size) = some 2)

set_option maxHeartbeats 1000000 in
set_option maxRecDepth 100000 in
theorem copyCheck_calls (B b : Nat) (bs : List Value) (w : World) (h : Lib.IsBuilder 73 5 B b bs w) :
    Calls Tryz.prog 85 #[.pointer (some ⟨b, 0, none⟩)] w fun e w' => e = .returned (.tuple #[]) ∧ Lib.BuilderAt 73 5 B b (.pointer (some ⟨b, 0, none⟩)) bs w' ∧ Below B w w' := by
  obtain ⟨j, hj, hjs⟩ := sz73
  rcases h with h | h
  · have c0 := h.cell0
    have hs := h.shape
    have hf := h.frozen0
    go_enter Tryz.func85, Tryz.ntmps85
    go_wp2
    rw [Lib.run_to_unsafe w ⟨b, 0, none⟩ Tryz.underlying70 Tryz.underlying222 hj (by rw [hjs]; decide) hs (Nat.zero_lt_succ 1)]
    simp only [Result.andThen]
    rw [Oper.upon_value]
    go_wp2
    rw [run_callFunc_extern Tryz.func133 (by kernel_rfl) (by kernel_rfl) (by kernel_rfl) (e := Extern.AbiNoEscape.same) (by kernel_rfl), Lib.run_noEscape]
    simp only [Result.andThen]
    rw [Oper.upon_value]
    go_wp2
    rw [Lib.run_from_unsafe w ⟨b, 0, none⟩ Tryz.underlying222 Tryz.underlying70 hj hs (by kernel_rfl)]
    simp only [Result.andThen]
    rw [Oper.upon_value]
    go_wp2
    go_end0
    exact ⟨rfl, h.used _, (Below.refl B w).setCell (p := ⟨b, 0, none⟩) h.1 _⟩
  · have c0 := h.cell0
    go_enter Tryz.func85, Tryz.ntmps85
    go_wp2
    rw [Lib.run_neq_ptr_same w _ Tryz.underlying70 hj]
    go_wp2
    go_end0
    exact ⟨rfl, h, Below.refl B _⟩

theorem info5z : ∃ i, Tryz.prog.info? 5 = some i ∧ i.zero = some (.int .u8 0) ∧ i.size = 1 ∧ i.bytes = 1 := info_parts (by kernel_rfl : (Tryz.prog.info? 5).map (fun i => (i.zero, i.size, i.bytes)) = some (some (.int .u8 0), 1, 1))

set_option maxHeartbeats 2000000 in
set_option maxRecDepth 100000 in
theorem writeString_calls (B b : Nat) (bs : List Value) (s : ByteArray) (w : World) (h : Lib.IsBuilder 73 5 B b bs w) (hlen : bs.length + s.size ≤ 140737488355328) (hBw : B ≤ w.heap.size) :
    Calls Tryz.prog 37 #[.pointer (some ⟨b, 0, none⟩), .string s] w fun e w' => e = .returned (.tuple #[.int .i64 s.size, .nilIface]) ∧ Lib.BuilderAt 73 5 B b (.pointer (some ⟨b, 0, none⟩)) (bs ++ Lib.strCells s) w' ∧ Below B w w' := by
  obtain ⟨i0, hi, hz0, hz1, hz2⟩ := info5z
  go_enter Tryz.func37, Tryz.ntmps37
  go_wp2_with (go_at_call 85; refine (copyCheck_calls B b bs _ h).mono ?_)
  rintro e w1 ⟨rfl, ⟨hB, v, hbk, hown, hne⟩, hb1⟩
  have c1 : w1.cell? ⟨b, 1, none⟩ = some v := by rw [Lib.cell_of_heap hbk]; rfl
  have hs1 := hb1.size
  have hlt : b < w1.heap.size := (Array.getElem?_eq_some_iff.1 hbk).1
  go_wp2_with (at_builtin; refine Lib.wpList_append_own_string _ rfl _ _ 71 9 rfl B 5 i0 Tryz.underlying71 Tryz.underlying9 hi hz0 hz1 hz2 _ _ _ rfl hown s rfl ?c3 ?c4 ?c5 ?_)
  case c3 => unfold maxLen; omega
  case c4 => omega
  case c5 => omega
  intro v' w2 hown' hgrow _
  have hb2 : w2.heap[b]? = some (.cells #[.pointer (some ⟨b, 0, none⟩), v] 73 (0, 0)) := (hgrow.block b hlt (fun e => hne e.symm)).trans hbk
  have d1 : w2.cell? ⟨b, 1, none⟩ = some v := by rw [Lib.cell_of_heap hb2]; rfl
  have fz : w2.frozen? ⟨b, 1, none⟩ = false := Lib.frozen_of_heap hb2 1
  obtain ⟨ao, n', cap, rfl⟩ : ∃ ao n' cap, v' = .slice ao n' cap := by
    rcases hown'.2 with ⟨hv, _⟩ | ⟨g, cap, _, hv, _⟩
    · exact ⟨_, _, _, hv⟩
    · exact ⟨_, _, _, hv⟩
  go_wp2
  go_ret2
  have hl : (Lib.strCells s).length = s.size := by simp [Lib.strCells]
  refine ⟨rfl, Lib.BuilderAt.put (T := 73) (e := 5) hB hb2 (by rw [List.length_append, hl]; exact hown') (by decide), ?_⟩
  exact (hb1.grown hgrow (by omega) (fun k hk => (hown.lt k hk).1)).setCell (p := ⟨b, 1, none⟩) hB _

set_option maxHeartbeats 2000000 in
set_option maxRecDepth 100000 in
theorem writeByte_calls (B b : Nat) (bs : List Value) (c : Int) (w : World) (h : Lib.IsBuilder 73 5 B b bs w) (hlen : bs.length + 1 ≤ 140737488355328) (hBw : B ≤ w.heap.size) :
    Calls Tryz.prog 39 #[.pointer (some ⟨b, 0, none⟩), .int .u8 c] w fun e w' => e = .returned .nilIface ∧ Lib.BuilderAt 73 5 B b (.pointer (some ⟨b, 0, none⟩)) (bs ++ [.int .u8 c]) w' ∧ Below B w w' := by
  obtain ⟨i0, hi, hz0, hz1, hz2⟩ := info5z
  go_enter Tryz.func39, Tryz.ntmps39
  go_wp2_with (go_at_call 85; refine (copyCheck_calls B b bs _ h).mono ?_)
  rintro e w1 ⟨rfl, ⟨hB, v, hbk, hown, hne⟩, hb1⟩
  have c1 : w1.cell? ⟨b, 1, none⟩ = some v := by rw [Lib.cell_of_heap hbk]; rfl
  have hs1 := hb1.size
  have hlt : b < w1.heap.size := (Array.getElem?_eq_some_iff.1 hbk).1
  go_wp2_with (at_builtin; refine wpList_append_own _ rfl _ _ 71 rfl B 5 i0 (.int .u8 0) 1 1 Tryz.underlying71 hi hz0 hz1 hz2 rfl (by decide) _ _ _ rfl (hown.alloc _) ⟨w1.heap.size, 0, none⟩ 1 1 [.int .u8 c] rfl rfl ?c1 ?c2 ?c3 ?c4 ?c5 ?_)
  case c1 =>
    intro j u hj
    match j, hj with
    | 0, hj => cases hj; simp [Addr.add]
  case c2 => intro u hu; rw [List.mem_singleton] at hu; subst hu; rfl
  case c3 => unfold maxLen; omega
  case c4 => omega
  case c5 => simp; omega
  intro v' w2 hown' hgrow _
  have hb2 : w2.heap[b]? = some (.cells #[.pointer (some ⟨b, 0, none⟩), v] 73 (0, 0)) := by
    rw [hgrow.block b (by simp; omega) (fun e => hne e.symm), Lib.alloc_old w1 _ b hlt]
    exact hbk
  have d1 : w2.cell? ⟨b, 1, none⟩ = some v := by rw [Lib.cell_of_heap hb2]; rfl
  have fz : w2.frozen? ⟨b, 1, none⟩ = false := Lib.frozen_of_heap hb2 1
  obtain ⟨ao, n', cap, rfl⟩ : ∃ ao n' cap, v' = .slice ao n' cap := by
    rcases hown'.2 with ⟨hv, _⟩ | ⟨g, cap, _, hv, _⟩
    · exact ⟨_, _, _, hv⟩
    · exact ⟨_, _, _, hv⟩
  go_wp2
  go_ret
  refine ⟨rfl, Lib.BuilderAt.put (T := 73) (e := 5) hB hb2 (by simpa using hown') (by decide), ?_⟩
  exact ((hb1.alloc (by omega) _).grown hgrow (by simp; omega) (fun k hk => (hown.lt k hk).1)).setCell (p := ⟨b, 1, none⟩) hB _
end Go.Proofs.YtpefhdjkpdjdpaaGreatDoor.R
namespace Go.Proofs.YtpefhdjkpdjdpaaGreatDoor.R
open Go Go.RowKit Go.Proofs.YtpefhdjkpdjdpaaGreatDoorW.PrintWords Go.Proofs.YtpefhdjkpdjdpaaGreatDoorW.PrintLast Go.Proofs.YtpefhdjkpdjdpaaGreatDoorW.PrintMore
theorem isB_below {W W' : World} {B b : Nat} {bs : List Value} (h : Lib.IsBuilder 73 5 B b bs W) (hb : Below W.heap.size W W') : Lib.IsBuilder 73 5 B b bs W' := by
  rcases h with ⟨h1, v, h2, h3, h4⟩ | ⟨h1, v, h2, h3, h4⟩
  · exact .inl ⟨h1, v, (hb.block _ (Array.getElem?_eq_some_iff.1 h2).1).trans h2, pw_own_below h3 hb, h4⟩
  · exact .inr ⟨h1, v, (hb.block _ (Array.getElem?_eq_some_iff.1 h2).1).trans h2, pw_own_below h3 hb, h4⟩

/-- What Print answers, from a clause on. -/
def printGo : List S40 → List UInt8 → ByteArray × Int
  | [], acc => (tx acc, 0)
  | c :: cs, acc => if vld c then printGo cs (acc ++ lineL c ++ [10]) else (tx [], 60)
def printT (l : List S40) : ByteArray × Int := if l.length ≤ 400 then printGo l [] else (tx [], 60)
def rights_Print.f (l : List S40) : Option (ByteArray × Int) := some (printT l)

attribute [local go_sem] setCell_new
set_option maxHeartbeats 4000000 in
set_option maxRecDepth 100000 in
theorem rights_Print.calls (A0 : Option Addr) (c0 : Nat) (l0 : List S40) (r1 : ByteArray) (r2 : Int) (w : World) (hr0 : Kd.C k40 w A0 l0.length l0) (_hc0 : l0.length ≤ c0) (h : rights_Print.f l0 = some (r1, r2)) (hT : TabW w) :
    Calls Tryz.prog 10 #[.slice A0 l0.length c0] w fun e w' => e = .returned (.tuple #[.string r1, .int .i64 r2]) ∧ Below w.heap.size w w' := by
  have h' : printT l0 = (r1, r2) := Option.some.inj h
  clear h
  unfold printT at h'
  have hu40 := Tryz.underlying40
  by_cases hl : l0.length ≤ 400
  · rw [if_pos hl] at h'
    have hlb : decide (400 < (l0.length : Int)) = false := decide_eq_false (by omega)
    have HR := Aside0.mk hr0
    have HL := Aside0.mk hl
    have H := Aside0.mk h'
    clear hr0 hl h'
    go_enter Tryz.func10, Tryz.ntmps10
    go_wp2
    have hB0 : Below w.heap.size w (w.alloc (.cells #[.pointer none, .slice none 0 0] 73)) := below_alloc (Below.refl _ _) _
    have hI0 := Lib.fresh_isBuilder 73 5 w
    go_loopg [12] l0.length (fun kq v12 W => ∃ (i : Nat) (acc : List UInt8), v12 = .int .i64 (i : Int) ∧ Aside0 (kq + i = l0.length) ∧ Aside0 (acc.length ≤ 177 * i) ∧ Aside0 (printGo (l0.drop i) acc = (r1, r2)) ∧ Aside0 (Lib.IsBuilder 73 5 w.heap.size w.heap.size (Lib.byteCells acc) W) ∧ Aside0 (Below w.heap.size w W))
    case atStart => exact ⟨0, [], rfl, ⟨by omega⟩, ⟨by simp⟩, ⟨by simpa using H.out⟩, ⟨hI0⟩, ⟨hB0⟩⟩
    case round =>
      clear hI0 hB0 H
      obtain ⟨i, acc, rfl, hk, ha, H, hI, hB⟩ := hrel
      by_cases hi : i < l0.length
      · have hib : decide ((i : Int) < (l0.length : Int)) = true := decide_eq_true (by omega)
        have hi0 : (0 : Int) ≤ (i : Int) := by omega
        have hi1 : (i : Int) < (l0.length : Int) := by omega
        obtain ⟨ad, e, x0, x1, x2, x3, x4, x5, x6, x7⟩ := at_T40 HR.out (i : Int) hi0 hi1
        cases e
        have hd : l0.drop i = rd_T40 l0 (i : Int) :: l0.drop (i + 1) := by
          rw [List.drop_eq_getElem_cons hi]
          congr 1
          simp [rd_T40, hi]
        replace H := Aside0.mk (hd ▸ H.out)
        clear hd
        revert x0 x1 x2 x3 x4 x5 x6 x7 H
        generalize rd_T40 l0 (i : Int) = y
        intro x0 x1 x2 x3 x4 x5 x6 x7 H
        replace x0 := pw_cell_below hB.out x0
        replace x1 := pw_cell_below hB.out x1
        replace x2 := pw_cell_below hB.out x2
        replace x3 := pw_cell_below hB.out x3
        replace x4 := pw_cell_below hB.out x4
        replace x5 := pw_cell_below hB.out x5
        replace x6 := pw_cell_below hB.out x6
        replace x7 := pw_cell_below hB.out x7
        simp only [Int.toNat_natCast] at x0 x1 x2 x3 x4 x5 x6 x7
        replace hi0 := eq_true hi0
        replace hi1 := eq_true hi1
        have vf := valid_f 0 y
        have H2 := H.out
        unfold printGo at H2
        clear H
        by_cases hv : vld y = true
        · rw [if_pos hv] at H2
          have lf := line_f y hv
          have ll := Aside0.mk (lineL_len y hv)
          rw [hv] at vf
          clear hv
          have H := Aside0.mk H2
          clear H2
          have VF := Aside0.mk vf
          have LF := Aside0.mk lf
          clear vf lf
          have hA := Aside0.mk (below_alloc (Below.refl wr.heap.size wr) (.cells #[.int .i64 y.f0, .int .i64 y.f1, .int .i64 y.f2, .int .i64 y.f3, .int .i64 y.f4, .int .i64 y.f5, .int .i64 y.f6, .int .i64 y.f7] 40 (0, 0)))
          go_wp2_with (first
            | (go_at_call 24; refine (rights_Valid.calls _ y.f0 y.f1 y.f2 y.f3 y.f4 y.f5 y.f6 y.f7 _ _ VF.out).mono ?_; rintro e w1 ⟨rfl, hb1⟩; have hX := (hb1.block wr.heap.size (by simp)).trans (World.alloc_heap_new wr _); have z0 := (blk_cell hX 0).trans rfl; have z1 := (blk_cell hX 1).trans rfl; have z2 := (blk_cell hX 2).trans rfl; have z3 := (blk_cell hX 3).trans rfl; have z4 := (blk_cell hX 4).trans rfl; have z5 := (blk_cell hX 5).trans rfl; have z6 := (blk_cell hX 6).trans rfl; have z7 := (blk_cell hX 7).trans rfl; have HB1 := Aside0.mk (below_step hA.out hb1); clear hb1 hX hA)
            | (go_at_call 38; refine (rights_line.calls _ y.f0 y.f1 y.f2 y.f3 y.f4 y.f5 y.f6 y.f7 _ _ LF.out (hT.below (below_step hB.out HB1.out))).mono ?_; rintro e w2 ⟨rfl, hb2⟩; have HB2 := Aside0.mk (below_step HB1.out hb2); clear hb2 HB1)
            | (go_at_call 37; refine (writeString_calls _ _ _ _ _ (isB_below hI.out HB2.out) (by have := ha.out; have := ll.out; have := HL.out; rw [Lib.byteCells_length, tx_size]; omega) (below_size (below_step hB.out HB2.out))).mono ?_; rintro e w3 ⟨rfl, hI3, hb3⟩; have HB3 := Aside0.mk ((below_step hB.out HB2.out).trans hb3); have HI3 := Aside0.mk hI3; clear hb3 hI3 HB2)
            | (go_at_call 39; refine (writeByte_calls _ _ _ _ _ (.inr HI3.out) (by have := ha.out; have := ll.out; have := HL.out; rw [List.length_append, Lib.byteCells_length, Lib.strCells_length, tx_size]; omega) (below_size HB3.out)).mono ?_; rintro e w4 ⟨rfl, hI4, hb4⟩; have HB4 := Aside0.mk (HB3.out.trans hb4); have HI4 := Aside0.mk hI4; clear hb4 hI4))
          have hw : Aside0 (wrap64 ((i : Int) + 1) = ((i + 1 : Nat) : Int)) := ⟨by have := HL.out; unfold wrap64; omega⟩
          go_roundg (gk - 1)
          case measure => have := hk.out; omega
          case rel =>
            refine ⟨i + 1, acc ++ lineL y ++ [10], ?_, ⟨by have := hk.out; omega⟩, ⟨by have := ha.out; have := ll.out; simp; omega⟩, H, ⟨.inr ?_⟩, HB4⟩
            · rw [← hw.out]
            · have e : Lib.byteCells (acc ++ lineL y ++ [10]) = Lib.byteCells acc ++ Lib.strCells (tx (lineL y)) ++ [.int .u8 10] := by
                rw [Lib.byteCells_append, Lib.byteCells_append, Lib.strCells_eq, tx_data]
                rfl
              rw [e]
              exact HI4.out
        · rw [if_neg hv] at H2
          obtain ⟨rfl, rfl⟩ := Prod.mk.inj H2
          rw [Bool.not_eq_true] at hv
          rw [hv] at vf
          clear hv H2
          have VF := Aside0.mk vf
          clear vf
          have hA := Aside0.mk (below_alloc (Below.refl wr.heap.size wr) (.cells #[.int .i64 y.f0, .int .i64 y.f1, .int .i64 y.f2, .int .i64 y.f3, .int .i64 y.f4, .int .i64 y.f5, .int .i64 y.f6, .int .i64 y.f7] 40 (0, 0)))
          go_wp2_with (go_at_call 24; refine (rights_Valid.calls _ y.f0 y.f1 y.f2 y.f3 y.f4 y.f5 y.f6 y.f7 _ _ VF.out).mono ?_; rintro e w1 ⟨rfl, hb1⟩; have HB1 := Aside0.mk (below_step hA.out hb1); clear hb1 hA)
          go_ret2
          exact ⟨rfl, below_step hB.out HB1.out⟩
      · have hib : decide ((i : Int) < (l0.length : Int)) = false := decide_eq_false (by omega)
        have h2 := H.out
        rw [List.drop_eq_nil_of_le (by omega)] at h2
        obtain ⟨rfl, rfl⟩ := Prod.mk.inj h2
        by_cases h0 : acc = []
        · subst h0
          go_wp2_with (go_at_call 40; refine (Tryz.Builder_String_empty _ _ _ hI.out (below_size hB.out)).mono ?_; rintro e w1 ⟨rfl, hb⟩)
          go_ret2
          exact ⟨rfl, hB.out.trans hb⟩
        · go_wp2_with (go_at_call 40; refine (Tryz.Builder_String _ _ acc _ hI.out h0).mono ?_; rintro e w1 ⟨rfl, hb⟩)
          go_ret2
          exact ⟨rfl, hB.out.trans hb⟩
  · rw [if_neg hl] at h'
    obtain ⟨rfl, rfl⟩ := Prod.mk.inj h'
    have hlb : decide (400 < (l0.length : Int)) = true := decide_eq_true (by omega)
    clear hl h' hr0
    go_enter Tryz.func10, Tryz.ntmps10
    go_wp2
    go_ret2
    exact ⟨rfl, Below.refl _ _⟩
end Go.Proofs.YtpefhdjkpdjdpaaGreatDoor.R
namespace Go.Proofs.YtpefhdjkpdjdpaaGreatDoor.R
open Go Go.RowKit Go.Proofs.YtpefhdjkpdjdpaaGreatDoorW.PrintWords Go.Proofs.YtpefhdjkpdjdpaaGreatDoorW.PrintLast Go.Proofs.YtpefhdjkpdjdpaaGreatDoorW.PrintMore
/-- One line more: the clauses so far, or the number of the first line that is damaged. -/
def pStep (o : Except Nat (List S40)) (p : Nat × List UInt8) : Except Nat (List S40) := match o with
  | .error n => .error n
  | .ok acc => if (readOf (tx p.2)).2 = true ∧ acc.length ≠ 400 then .ok (acc ++ [(readOf (tx p.2)).1]) else .error p.1
theorem pStep_error (n : Nat) (ps : List (Nat × List UInt8)) : ps.foldl pStep (.error n) = .error n := by
  induction ps with
  | nil => rfl
  | cons a r ih => exact ih
def parseT (s : ByteArray) : List S40 × Int × Int :=
  if s.size ≤ 65536 then match (linesGo 0 (pieces 10 s.data.toList)).foldl pStep (.ok []) with
    | .ok acc => (acc, 0, 0)
    | .error n => ([], (n : Int), 60)
  else ([], 0, 60)
def rights_Parse.f (s : ByteArray) : Option (List S40 × Int × Int) := some (parseT s)

theorem linesGo_mem : ∀ (a : List (List UInt8)) (n : Nat) (x : Nat × List UInt8), x ∈ linesGo n a → x.2 ∈ a ∧ n < x.1 ∧ x.1 ≤ n + a.length
  | [], n, x, h => by simp [linesGo] at h
  | p :: ps, n, x, h => by
    unfold linesGo at h
    split at h
    · obtain ⟨h1, h2, h3⟩ := linesGo_mem ps (n + 1) x h
      exact ⟨List.mem_cons_of_mem _ h1, by omega, by rw [List.length_cons]; omega⟩
    · rcases List.mem_cons.1 h with rfl | h
      · exact ⟨List.mem_cons_self, Nat.lt_succ_self _, by rw [List.length_cons]; show n + 1 ≤ _; omega⟩
      · obtain ⟨h1, h2, h3⟩ := linesGo_mem ps (n + 1) x h
        exact ⟨List.mem_cons_of_mem _ h1, by omega, by rw [List.length_cons]; omega⟩

def cells8 (x : S40) : List Value := [.int .i64 x.f0, .int .i64 x.f1, .int .i64 x.f2, .int .i64 x.f3, .int .i64 x.f4, .int .i64 x.f5, .int .i64 x.f6, .int .i64 x.f7]
theorem flat8_len (xs : List S40) : (xs.flatMap cells8).length = xs.length * 8 := by
  induction xs with
  | nil => rfl
  | cons a r ih => rw [List.flatMap_cons, List.length_append, ih, List.length_cons]; simp [cells8]; omega
theorem reps8 (W : World) (base : Nat) (ok : Nat → Prop) : ∀ xs : List S40, Reps (k40.M W base ok) 8 xs (xs.flatMap cells8) := by
  intro xs
  refine ⟨flat8_len xs, ?_⟩
  induction xs with
  | nil => intro j p h; simp at h
  | cons a r ih =>
    intro j p h
    cases j with
    | zero =>
      obtain rfl : a = p := by simpa using h
      rw [List.flatMap_cons]
      simpa [cells8] using k40_mkM W base ok a
    | succ j =>
      have h2 := ih j p (by simpa using h)
      have e : (j + 1) * 8 = (cells8 a).length + j * 8 := by rw [show (cells8 a).length = 8 from rfl]; omega
      rw [List.flatMap_cons, e, ← List.drop_drop, List.drop_left]
      exact h2
/-- A row of clauses of one's own, in the printed texts' words. -/
theorem R40_of_own {W : World} {base : Nat} {v : Value} {xs : List S40} (h : W.ownsRow base 40 8 v xs.length (xs.flatMap cells8)) : Kd.R k40 40 W base (fun _ => True) v xs :=
  ⟨fun _ _ => trivial, _, h, reps8 W base _ xs⟩

/-- Behind an append to a row of clauses, and the store of the slice into a box of old: what lies from n on, and is no clause's row, lies as it lay. -/
theorem keepN_appended {W w1 : World} {n n₀ B k : Nat} {v : Value} {xs : List Value} {tmp : Obj} (hrow : W.ownsRow n₀ 40 8 v k xs) (hgrow : (W.alloc tmp).grownBy w1 v.ownBlock) (hB : B < n) (v' : Value) : KeepN n W (w1.setCell ⟨B, 0, none⟩ v') := by
  refine ⟨?_, fun r o h1 h2 h3 => ?_⟩
  · have h1 := hgrow.size
    have h2 := (grownBy_setCell' w1 B v').size
    have h3 : (W.alloc tmp).heap.size = W.heap.size + 1 := by simp
    omega
  · have hlt := (Array.getElem?_eq_some_iff.1 h2).1
    rw [(grownBy_setCell' w1 B v').block r (by have := hgrow.size; simp at this; omega) (fun e => by injection e with e; omega)]
    rw [hgrow.block r (by simp; omega) (fun e => ?_)]
    · exact (Below.heap_alloc _ _ _ hlt).trans h2
    · rcases hrow.2 with ⟨rfl, _⟩ | ⟨g, cap, cur, rfl, _, hgb, _⟩
      · simp [Value.ownBlock] at e
      · obtain rfl : r = g := by simpa [Value.ownBlock] using e
        rw [h2] at hgb
        cases hgb
        exact h3 _ _ rfl
theorem KeepN.of_below {n : Nat} {W W' : World} (h : Below W.heap.size W W') : KeepN n W W' := ⟨h.size, fun r _ _ h2 _ => (h.block r (Array.getElem?_eq_some_iff.1 h2).1).trans h2⟩
theorem KeepN.setCell {n B : Nat} (W : World) (v : Value) (h : B < n) : KeepN n W (W.setCell ⟨B, 0, none⟩ v) := (KeepSet.setCell W ⟨B, 0, none⟩ v (by show ¬ n ≤ B; omega)).toX

theorem new_cells (X : World) (l : List Value) (t : TypeId) (n : Nat) (hn : n = X.heap.size) : ∀ (j : Nat) (u : Value), l[j]? = some u → (X.alloc (.cells l.toArray t (0, 0))).cell? ((⟨n, 0, none⟩ : Addr).add j) = some u := by
  intro j u h
  subst hn
  have e : ((⟨X.heap.size, 0, none⟩ : Addr).add j) = ⟨X.heap.size, j, none⟩ := by unfold Addr.add; split <;> simp_all
  rw [e, blk_cell (World.alloc_heap_new X _) j]
  simpa using h
theorem cells8_one (y : S40) : ∀ u ∈ cells8 y, u.oneCell' = true := by
  intro u hu
  simp only [cells8, List.mem_cons, List.not_mem_nil, or_false] at hu
  rcases hu with rfl | rfl | rfl | rfl | rfl | rfl | rfl | rfl <;> rfl
theorem wpIn_scope_wide {n : Nat} {P : Program} {c : Code} {Q : Exit → Act → World → Prop} {a : Act} {w : World} (h : c.wpIn Fence.wide n P (Exit.noGoto Q) a w) : (Code.scope c).wpIn Fence.wide n P Q a w := wpIn_wide.2 (wp_scope_straight (wpIn_wide.1 h))
theorem wpIn_label_wide {n : Nat} {P : Program} {l : Nat} {Q : Exit → Act → World → Prop} {a : Act} {w : World} (h : Q .normal a w) : (Code.label l).wpIn Fence.wide n P Q a w := wpIn_wide.2 (wp_label h)
attribute [local go_sem] Oper.semAt_some setCell_new
set_option maxRecDepth 100000 in
set_option maxHeartbeats 8000000 in
theorem parse_in (s : ByteArray) (w : World) (hT : TabW w) (hs : s.size ≤ 65536) :
    CallsIn Fence.wide 11 Tryz.prog 11 #[.string s] w fun e w' => ∃ v, e = .returned (.tuple #[v, .int .i64 (parseT s).2.1, .int .i64 (parseT s).2.2]) ∧ Kd.R k40 40 w' w.heap.size (fun _ => True) v (parseT s).1 ∧ Below w.heap.size w w' := by
  refine callsIn_of_wp_marks Tryz.func11 rfl (wideF 11) ?_ rfl
  simp only [Tryz.ntmps11, List.size_toArray, List.length_cons, List.length_nil, Nat.reduceAdd, Nat.reduceSub, Array.replicate_succ, Array.replicate_zero, List.push_toArray, List.append_toArray, List.nil_append, List.cons_append]
  have w41 := wideF 41
  have w42 := wideF 42
  have hu40 := Tryz.underlying40
  have hsb : decide ((65536 : Int) < (s.size : Int)) = false := decide_eq_false (by omega)
  gi_wp2
  refine wpIn_scope_wide ?_
  gi_wp2_with (first
    | (gi_at_call 41; refine (callsIn_wide.2 (lines_calls _ _)).mono ?_; rintro e w1 ⟨rfl, rfl⟩)
    | refine wpIn_label_wide ?_)
  have b0 := ((Boxed.new w 22 (.slice none 0 0)).alloc (.cells #[.int .i64 0] 3)).alloc (.cells #[.string s] 9)
  have b1 := (Boxed.new (w.alloc (.cells #[.slice none 0 0] 22)) 3 (.int .i64 0)).alloc (.cells #[.string s] 9)
  have b2 := Boxed.new ((w.alloc (.cells #[.slice none 0 0] 22)).alloc (.cells #[.int .i64 0] 3)) 9 (.string s)
  have hB0 : Below w.heap.size w (((w.alloc (.cells #[.slice none 0 0] 22)).alloc (.cells #[.int .i64 0] 3)).alloc (.cells #[.string s] 9)) := below_alloc (below_alloc (below_alloc (Below.refl _ _) _) _) _
  have hsz : (((w.alloc (.cells #[.slice none 0 0] 22)).alloc (.cells #[.int .i64 0] 3)).alloc (.cells #[.string s] 9)).heap.size = w.heap.size + 1 + 1 + 1 := by simp
  simp only [World.size_alloc] at b0 b1 b2
  revert b0 b1 b2 hB0 hsz
  generalize (((w.alloc (.cells #[.slice none 0 0] 22)).alloc (.cells #[.int .i64 0] 3)).alloc (.cells #[.string s] 9)) = W0
  intro b0 hB0 hsz b1 b2
  have hss : s.data.toList.length ≤ 1000000 := by rw [Array.length_toList]; exact Nat.le_trans hs (by decide)
  have hrow2 : ∀ {X : World} {row : Option Nat}, (∀ k, row = some k → ∃ o : Obj, X.heap[k]? = some o ∧ BearC (fun n r o => n ≤ r ∧ not40 o) W0.heap.size k o) → ∀ k, row = some k → ∃ o : Obj, X.heap[k]? = some o ∧ W0.heap.size ≤ k ∧ not40 o := by
    intro X row hr' k hk
    obtain ⟨o, ho, h | ⟨h, h2⟩⟩ := hr' k hk
    · exact ⟨o, ho, by have := h.1; omega, h.2⟩
    · exact ⟨o, ho, h, not40_other h2⟩
  refine wpIn_rangeC rfl (by decide) (gf := 90) (lb := #[.pointer (some ⟨w.heap.size + 1 + 1, 0, none⟩)]) rfl (wideF 90) (enters_of Tryz.func90 (by kernel_rfl) rfl)
    (lines_stops (w.heap.size + 1 + 1) s.data.toList hss W0 (by rw [tx_of]; exact b2.cell)) (fun r o h _ => h.1)
    (fun h k => KeepX.trans h k) (fun W l o o' h1 h2 _ _ => (KeepSet.putObj W l o' (by show ¬ (W0.heap.size + 2 ≤ l); omega)).toX) (Below.refl _ _) (fun _ => rfl)
    (fun pre W => ∃ v acc, pre.foldl pStep (.ok []) = .ok acc ∧ acc.length ≤ 400 ∧ Boxed W w.heap.size 22 v ∧ W.ownsRow w.heap.size 40 8 v acc.length (acc.flatMap cells8) ∧ Boxed W (w.heap.size + 1) 3 (.int .i64 0) ∧ Below w.heap.size w W)
    (fun c pre W => c = .exit 0 ∧ ∃ z : Nat, pre.foldl pStep (.ok []) = .error z ∧ 0 < z ∧ Boxed W (w.heap.size + 1) 3 (.int .i64 (z : Int)) ∧ Below w.heap.size w W)
    ?hI ?hIx ⟨.slice none 0 0, [], rfl, by simp, b0, World.ownsRow_nil _ _ _ _, b1, hB0⟩
    (fun _ _ => False) (fun _ _ h => h.elim) (fun _ _ h => h)
    (fun x a' W => a' = { tmps := #[.string s, undef, .slice none 0 0, .int .i64 0, .int .i64 0, .pointer (some ⟨w.heap.size, 0, none⟩), .pointer (some ⟨w.heap.size + 1, 0, none⟩), .int .i64 (x.1 : Nat), .string (tx x.2), undef, undef, .string s, .int .i64 s.size, .bool false, .string s,
      .func (.func 90) #[] #[.pointer (some ⟨w.heap.size + 1 + 1, 0, none⟩)], .int .i64 (x.1 : Nat), .string (tx x.2), undef, undef, undef, undef, undef, undef, undef, undef, undef, undef, undef, undef, undef, undef, undef, undef, undef, undef, undef, undef, undef], defers := [] })
    ?hAx ?assign ?body ?done ?stop ?pan
  case hI =>
    rintro st X Y row ⟨v, acc, e1, e2, e3, e4, e5, e6⟩ hg hr'
    have h2 := hrow2 hr'
    have hrow : ∀ k, row = some k → W0.heap.size ≤ k := fun k hk => by obtain ⟨_, _, h, _⟩ := h2 k hk; exact h
    refine ⟨v, acc, e1, e2, e3.kept hg (fun e => ?_), e4.kept hg ?_, e5.kept hg (fun e => ?_), e6.grown hg e6.size (fun k hk => by have := hrow k hk; omega)⟩
    · have := hrow _ e.symm; omega
    · rcases e4.2 with ⟨rfl, _⟩ | ⟨g, cap, cur, rfl, _, hgb, _⟩
      · exact .inl rfl
      · refine .inr fun e => ?_
        obtain ⟨o, ho, _, h4⟩ := h2 g (by simpa [Value.ownBlock] using e.symm)
        rw [hgb] at ho
        cases ho
        exact h4 _ _ rfl
    · have := hrow _ e.symm; omega
  case hIx =>
    rintro c st X Y row ⟨e1, z, e2, e3, e4, e5⟩ hg hr'
    have hrow : ∀ k, row = some k → W0.heap.size ≤ k := fun k hk => by obtain ⟨_, _, h, _⟩ := hrow2 hr' k hk; exact h
    exact ⟨e1, z, e2, e3, e4.kept hg (fun e => by have := hrow _ e.symm; omega), e5.grown hg e5.size (fun k hk => by have := hrow k hk; omega)⟩
  case hAx => exact fun x a' s X Y row h _ _ => h
  case assign =>
    intro l' pre x W' K hi' hK
    gi_wp2
    exact hK _ _ (KeepsFrom.refl _ _) (KeepX.refl _ _) hi' rfl
  case body =>
    rintro l' pre x a' W hl ⟨rc, hrc⟩ ⟨v, acc, e1, e2, e3, e4, e5, e6⟩ rfl hlt ⟨t, ht⟩
    clear hrc hlt
    have hmem : x ∈ linesGo 0 (pieces 10 s.data.toList) := by rw [← ht]; simp
    obtain ⟨hm1, hm2, _⟩ := linesGo_mem _ _ _ hmem
    have hxl : x.2.length ≤ s.data.toList.length := pieces_le _ _ _ hm1
    have hxs : (tx x.2).size ≤ 1000000 := by rw [tx_size]; omega
    have hrd := read_calls (tx x.2) hxs W (hT.below e6)
    have hst : (pre ++ [x]).foldl pStep (.ok []) = if (readOf (tx x.2)).2 = true ∧ acc.length ≠ 400 then .ok (acc ++ [(readOf (tx x.2)).1]) else .error x.1 := by rw [List.foldl_append, e1]; rfl
    clear ht hmem hm1 hxl hxs e1
    revert hrd hst
    generalize readOf (tx x.2) = q
    obtain ⟨y, ok⟩ := q
    intro hrd hst
    simp only [agg40] at hrd
    simp only at hst
    have HST := Lib.hid hst
    clear hst
    obtain ⟨ao, cap, rfl⟩ : ∃ ao cap, v = .slice ao acc.length cap := by
      rcases e4.2 with ⟨hv, h0⟩ | ⟨g, cap, _, hv, _⟩
      · exact ⟨_, _, by rw [hv, h0]⟩
      · exact ⟨_, _, hv⟩
    have k0 := e3.cell
    have k1 := e5.cell
    have f0 := e3.frozen
    have f1 := e5.frozen
    have hlen : acc.length < 9223372036854775807 := by omega
    have hbad : ∀ (w1 : World) (o : Obj) (u : Value), Below W.heap.size W w1 → KeepsFrom W0.heap.size W ((w1.alloc o).setCell ⟨w.heap.size + 1, 0, none⟩ u) ∧ KeepN (W0.heap.size + 2) W ((w1.alloc o).setCell ⟨w.heap.size + 1, 0, none⟩ u) ∧ Boxed ((w1.alloc o).setCell ⟨w.heap.size + 1, 0, none⟩ u) (w.heap.size + 1) 3 u ∧ Below w.heap.size w ((w1.alloc o).setCell ⟨w.heap.size + 1, 0, none⟩ u) := fun w1 o u hb => by
      have hb' : Below W.heap.size W (w1.alloc o) := below_alloc hb o
      exact ⟨keepsFrom_trans (keepsFrom_below hb') ((KeepsOthers.setCell _ _ _).from _), KeepX.trans (KeepN.of_below hb') (KeepN.setCell _ _ (by omega)), (boxed_below e5 hb').set _, below_set (below_step e6 hb') (by omega)⟩
    have HBAD := Lib.hid hbad
    clear hbad
    have w24 := wideF 24
    by_cases hok : ok = true
    · subst hok
      by_cases h400 : acc.length = 400
      · have b400 : ((acc.length : Int) == 400) = true := beq_iff_eq.2 (by omega)
        have HS : Hid ((pre ++ [x]).foldl pStep (.ok []) = .error x.1) := Lib.hid (by rw [HST.out]; simpa using h400)
        clear h400 HST
        gi_wp2_with (gi_at_call 42; refine (wideIn _ hrd).mono ?_; rintro e w1 ⟨hb, rfl⟩; have hbA := below_alloc hb (.cells #[.int .i64 y.f0, .int .i64 y.f1, .int .i64 y.f2, .int .i64 y.f3, .int .i64 y.f4, .int .i64 y.f5, .int .i64 y.f6, .int .i64 y.f7] 40 (0, 0)); have k0' := pw_cell_below hbA k0; have k1' := pw_cell_below hbA k1; have f1' := (boxed_below e5 hbA).frozen)
        exact ⟨(HBAD.out w1 _ _ hb).1, (HBAD.out w1 _ _ hb).2.1, rfl, x.1, HS.out, hm2, (HBAD.out w1 _ _ hb).2.2.1, (HBAD.out w1 _ _ hb).2.2.2⟩
      · have b400 : ((acc.length : Int) == 400) = false := beq_eq_false_iff_ne.2 (by omega)
        have HS : Hid ((pre ++ [x]).foldl pStep (.ok []) = .ok (acc ++ [y])) := Lib.hid (by rw [HST.out]; exact if_pos ⟨rfl, h400⟩)
        have hle : acc.length + 1 ≤ 400 := by omega
        clear h400 HST
        obtain ⟨i0, hi, hzz⟩ := Option.map_eq_some_iff.1 info40
        simp only [Prod.mk.injEq] at hzz
        obtain ⟨hz0, hz1, hz2⟩ := hzz
        gi_wp2_with (first
          | (gi_at_call 42; refine (wideIn _ hrd).mono ?_; rintro e w1 ⟨hb, rfl⟩; have hbA := below_alloc hb (.cells #[.int .i64 y.f0, .int .i64 y.f1, .int .i64 y.f2, .int .i64 y.f3, .int .i64 y.f4, .int .i64 y.f5, .int .i64 y.f6, .int .i64 y.f7] 40 (0, 0)); have k0' := pw_cell_below hbA k0; have hbx := boxed_below e3 hbA; have f0' := hbx.frozen; have hown1 := pw_own_below e4 hbA; have hsz1 := hbA.size)
          | (gi_at_builtin; refine wpListIn_append_own _ rfl _ _ 22 rfl w.heap.size 40 i0 _ 8 64 Tryz.underlying22 hi hz0 hz1 hz2 rfl (by decide) _ _ _ rfl (hown1.alloc _) ⟨w1.heap.size + 1, 0, none⟩ 1 1 (cells8 y) rfl rfl (new_cells _ _ _ _ (by simp)) (cells8_one y) (by unfold maxLen; omega) (by omega) (by have := e6.size; simp at hsz1 ⊢; omega) ?_; intro v' w2 hown' hgrow _; obtain ⟨g, cap', rfl⟩ := ownsRow_succ hown'; have happ := hbx.appended (by decide) hown1 (by have := e6.size; simp at hsz1 ⊢; omega) (Nat.le_refl _) hown' hgrow; have hc1 := happ.1.cell; have hf1 := happ.1.frozen; have HG := Lib.hid hgrow; have HAP := Lib.hid happ; clear hgrow happ))
        obtain ⟨hv1, hv2, hr2, hk2, hb2⟩ := HAP.out
        refine ⟨keepsFrom_trans (keepsFrom_below hbA) (hk2.from _), KeepX.trans (KeepN.of_below hbA) (keepN_appended hown1 HG.out (by omega) _), _, acc ++ [y], HS.out, by rw [List.length_append]; exact hle, hv2, ?_, (((boxed_below e5 hbA).alloc _).kept HG.out ((boxed_below e5 hbA).not_row (by decide) hown1)).other (by omega) _, (below_step e6 hbA).trans hb2⟩
        rw [List.flatMap_append, List.length_append]
        simpa using hr2
    · rw [Bool.not_eq_true] at hok
      subst hok
      have HS : Hid ((pre ++ [x]).foldl pStep (.ok []) = .error x.1) := Lib.hid (by rw [HST.out]; exact if_neg (fun h => by cases h.1))
      clear HST
      gi_wp2_with (gi_at_call 42; refine (wideIn _ hrd).mono ?_; rintro e w1 ⟨hb, rfl⟩; have hbA := below_alloc hb (.cells #[.int .i64 y.f0, .int .i64 y.f1, .int .i64 y.f2, .int .i64 y.f3, .int .i64 y.f4, .int .i64 y.f5, .int .i64 y.f6, .int .i64 y.f7] 40 (0, 0)); have k0' := pw_cell_below hbA k0; have k1' := pw_cell_below hbA k1; have f1' := (boxed_below e5 hbA).frozen)
      exact ⟨(HBAD.out w1 _ _ hb).1, (HBAD.out w1 _ _ hb).2.1, rfl, x.1, HS.out, hm2, (HBAD.out w1 _ _ hb).2.2.1, (HBAD.out w1 _ _ hb).2.2.2⟩
  case done =>
    rintro D ys W hD rfl ⟨v, acc, e1, e2, e3, e4, e5, e6⟩ hK
    have k0 := e3.cell
    have k1 := e5.cell
    have hpt : parseT s = (acc, 0, 0) := by unfold parseT; rw [if_pos hs, e1]
    obtain ⟨ao, cap, rfl⟩ : ∃ ao cap, v = .slice ao acc.length cap := by
      rcases e4.2 with ⟨hv, h0⟩ | ⟨g, cap, _, hv, _⟩
      · exact ⟨_, _, by rw [hv, h0]⟩
      · exact ⟨_, _, hv⟩
    gi_wp2
    refine ⟨by simp, .inl ⟨_, _, rfl, run_takeDeferred hK, ?_⟩⟩
    refine ⟨.tuple #[.slice ao acc.length cap, .int .i64 0, .int .i64 0], ?_, .slice ao acc.length cap, by rw [hpt], by rw [hpt]; exact R40_of_own (ownsRow_putObj e4 _ hK rfl), below_putObj e6 (by omega) hK _⟩
    simp [results, Tryz.f11, go_sem]
  case stop =>
    rintro D c pre W hD ⟨t, ht⟩ ⟨rfl, z, e2, e3, e4, e5⟩ hK
    have k1 := e4.cell
    have hpt : parseT s = ([], (z : Int), 60) := by unfold parseT; rw [if_pos hs, ← ht, List.foldl_append, e2, pStep_error]
    have hzb : decide ((0 : Int) < (z : Int)) = true := decide_eq_true (by omega)
    gi_wp2
    gi_region
    all_goals
      gi_wp2
      refine ⟨by simp, .inl ⟨_, _, rfl, run_takeDeferred (w := W.drew) hK, ?_⟩⟩
      refine ⟨.tuple #[.slice none 0 0, .int .i64 (z : Int), .int .i64 60], ?_, .slice none 0 0, by rw [hpt], by rw [hpt]; exact Kd.R_nil _ _ _ _ _, below_putObj e5.drew (by omega) (o := .deferred (some [])) hK _⟩
      simp [results, Tryz.f11, go_sem]
  case pan => exact fun _ _ _ _ h _ => h.elim

set_option maxRecDepth 100000 in
set_option maxHeartbeats 4000000 in
theorem rights_Parse.calls (a0 : ByteArray) (r1 : List S40) (r2 r3 : Int) (w : World) (h : rights_Parse.f a0 = some (r1, r2, r3)) (hT : TabW w) :
    Calls Tryz.prog 11 #[.string a0] w fun e w' => ∃ v0_ : Value, e = .returned (.tuple #[v0_, .int .i64 r2, .int .i64 r3]) ∧ Kd.R k40 40 w' w.heap.size (fun _ => True) v0_ r1 ∧ Below w.heap.size w w' := by
  have h' : parseT a0 = (r1, r2, r3) := Option.some.inj h
  by_cases hs : a0.size ≤ 65536
  · have := callsIn_wide.1 (parse_in a0 w hT hs)
    rw [h'] at this
    exact this
  · unfold parseT at h'
    rw [if_neg hs] at h'
    obtain ⟨rfl, rfl, rfl⟩ : [] = r1 ∧ 0 = r2 ∧ 60 = r3 := by
      injection h' with h1 h2
      injection h2 with h2 h3
      exact ⟨h1, h2, h3⟩
    have hsb : decide ((65536 : Int) < (a0.size : Int)) = true := decide_eq_true (by omega)
    refine (callsIn_wide (n := 11)).1 ?_
    refine callsIn_of_wp_marks Tryz.func11 rfl (wideF 11) ?_ rfl
    simp only [Tryz.ntmps11, List.size_toArray, List.length_cons, List.length_nil, Nat.reduceAdd, Nat.reduceSub, Array.replicate_succ, Array.replicate_zero, List.push_toArray, List.append_toArray, List.nil_append, List.cons_append]
    gi_wp2
    refine wpIn_scope_wide ?_
    gi_wp2
    refine ⟨.tuple #[.slice none 0 0, .int .i64 0, .int .i64 60], ?_, .slice none 0 0, rfl, Kd.R_nil _ _ _ _ _, Below.refl _ _⟩
    simp [results, Tryz.f11, go_sem]
end Go.Proofs.YtpefhdjkpdjdpaaGreatDoor.R
