-- PRINTED by print.py (a twelfth state) out of the translation. Not trusted: Lean checks it.
import Derived.Test.YtbkidegpgpccfaaS0
import Derived.Test.YtbkidegpgpccfaaS1
import Derived.Test.YtbkidegpgpccfaaS3
import Derived.Test.YtbkidegpgpccfaaS10
import Derived.Test.YtbkidegpgpccfaaS11
import Derived.Test.YtbkidegpgpccfaaHswing
namespace Go.Proofs.Ytbkidegpgpccfaa.S
open Go.RowKit Go.Proofs.YtbkidegpgpccfaaW.PrintWords Go.Proofs.YtbkidegpgpccfaaW.PrintLast Go.Proofs.YtbkidegpgpccfaaW.PrintMore
attribute [local go_sem] Go.Proofs.YtbkidegpgpccfaaW.PrintXtra.isSome_setCell max2_int min2_int max_two min_two max_three min_three max_four min_four   -- for this text's walks alone
set_option linter.unusedVariables false
set_option linter.unusedSimpArgs false

attribute [local go_sem high] eqA23
/-! ### tipstafflaw16_PanelBack: function 7 -/
def tipstafflaw16_PanelBack.f (k : Nat) (a0 : Int) (l1 : List Int) (a2 : Int) : Option (Bool) := (tipstafflaw16_PanelKnown.f k).bind fun t504 => ((tipstafflaw16_made.f k a0 l1).bind fun bt505 => ((panel_Order.f k bt505.1 bt505.2.1 bt505.2.2.1 4).bind fun bt510 => ((panel_Order.f k bt510.1 bt510.2.1 bt510.2.2.1 4).bind fun bt515 => ((tipstaffkit_Mod.f a2 60).bind fun t520 => (if 0 ≤ t520 then (if (t520 : Int).toNat ≤ 35184372088832 then ((panel_Swing.f k bt505.1 bt505.2.1 bt505.2.2.1 (List.replicate (t520 : Int).toNat 0)).bind fun bt524 => (if bt505.2.2.2 = true then (if bt510.2.2.2 = 0 then (if bt515.2.2.2 = 0 then (if bt524.2.2.2.2.2 = 0 then (if (wrap64 (bt524.2.2.2.1 + bt524.2.2.2.2.1)) > 1 then (none) else (if t504 = true then (if (bt515.1 == bt505.1 && (bt515.2.1 == bt505.2.1 && (bt515.2.2.1 == bt505.2.2.1))) = true then (some true) else (if bt505.1 = 0 then (if bt515.2.2.1 = 0 then (some (bt515.1 == bt505.1)) else (none)) else (if bt505.1 = bt505.2.1 then (if bt515.2.2.1 = 0 then (some (bt515.1 == bt505.1)) else (none)) else (none)))) else (none))) else (none)) else (none)) else (none)) else (none))) else (none)) else (none))))))
theorem tipstafflaw16_PanelBack.mono : ∀ a0 a1 a2 k, LeO (tipstafflaw16_PanelBack.f k a0 a1 a2) (tipstafflaw16_PanelBack.f (k + 1) a0 a1 a2) := by
 intro a0 a1 a2 k
 unfold tipstafflaw16_PanelBack.f
 repeat' first
   | (with_reducible exact panel_Order.mono _ _ _ _ _)
   | (with_reducible exact panel_Swing.mono _ _ _ _ _)
   | (with_reducible exact tipstafflaw16_PanelKnown.mono _)
   | (with_reducible exact tipstafflaw16_made.mono _ _ _)
   | (with_reducible exact LeO.refl _)
   | (with_reducible exact LeO.none _)
   | (with_reducible refine LeO.ite ?_ ?_)
   | (with_reducible refine LeO.bind ?_ (fun _ => ?_))
   | exact panel_Order.mono _ _ _ _ _
   | exact panel_Swing.mono _ _ _ _ _
   | exact tipstafflaw16_PanelKnown.mono _
   | exact tipstafflaw16_made.mono _ _ _
   | exact LeO.none _
   | refine LeO.ite ?_ ?_
   | refine LeO.bind ?_ (fun _ => ?_)
def tipstafflaw16_PanelBack.T5 : Bool × List (List Nat × List Nat) := (true, [([], []), ([], []), ([1], [1]), ([2, 2], [2]), ([0, 3, 2], [0, 3]), ([4], [4]), ([5], [5]), ([5], [5]), ([5], [5]), ([5], [5]), ([], []), ([10, 6, 4, 0, 1, 2, 3, 4, 5, 6, 10], [6, 10]), ([7, 11, 0, 1, 2, 3, 4, 5, 6, 7, 10, 11], [7]), ([8, 12, 0, 1, 2, 3, 4, 5, 6, 7, 8, 10, 11, 12], [8]), ([9, 13, 0, 1, 2, 3, 4, 5, 6, 7, 8, 9, 10, 11, 12, 13], [9])])
def tipstafflaw16_PanelBack.B5 : List Nat := [0, 0, 2, 6, 15, 31, 63, 63, 63, 63, 0, 1151, 3327, 7679, 16383]
theorem tipstafflaw16_PanelBack.tab5 : rtab .any (opsOf Try.f7 5) = tipstafflaw16_PanelBack.T5 := by kernel_rfl
theorem tipstafflaw16_PanelBack.bits5 : waitsOk tipstafflaw16_PanelBack.T5.2 tipstafflaw16_PanelBack.B5 = true := by kernel_rfl
set_option maxHeartbeats 8000000 in
set_option maxRecDepth 100000 in
theorem tipstafflaw16_PanelBack.calls (k : Nat) (a0 : Int) (A1 : Option Addr) (c1 : Nat) (l1 : List Int) (a2 : Int) (r : Bool) (w : World) (hr1 : Kd.C (Kd.int .i64) w A1 l1.length l1) (hc1 : l1.length ≤ c1) (h : tipstafflaw16_PanelBack.f k a0 l1 a2 = some r) :
  Calls Try.prog 7 #[.int .i64 a0, .slice A1 l1.length c1, .int .i64 a2] w fun e w' => e = .returned (.bool r) ∧ Below w.heap.size w w' := by
 have hu23 := Try.underlying23
 have HR1 := Aside0.mk hr1
 have HC1 := Aside0.mk hc1
 clear hr1 hc1
 have HB := Aside0.mk (Below.refl w.heap.size w)
 have H : ((tipstafflaw16_PanelKnown.f k).bind fun t504 => ((tipstafflaw16_made.f k a0 l1).bind fun bt505 => ((panel_Order.f k bt505.1 bt505.2.1 bt505.2.2.1 4).bind fun bt510 => ((panel_Order.f k bt510.1 bt510.2.1 bt510.2.2.1 4).bind fun bt515 => ((tipstaffkit_Mod.f a2 60).bind fun t520 => (if 0 ≤ t520 then (if (t520 : Int).toNat ≤ 35184372088832 then ((panel_Swing.f k bt505.1 bt505.2.1 bt505.2.2.1 (List.replicate (t520 : Int).toNat 0)).bind fun bt524 => (if bt505.2.2.2 = true then (if bt510.2.2.2 = 0 then (if bt515.2.2.2 = 0 then (if bt524.2.2.2.2.2 = 0 then (if (wrap64 (bt524.2.2.2.1 + bt524.2.2.2.2.1)) > 1 then (none) else (if t504 = true then (if (bt515.1 == bt505.1 && (bt515.2.1 == bt505.2.1 && (bt515.2.2.1 == bt505.2.2.1))) = true then (some true) else (if bt505.1 = 0 then (if bt515.2.2.1 = 0 then (some (bt515.1 == bt505.1)) else (none)) else (if bt505.1 = bt505.2.1 then (if bt515.2.2.1 = 0 then (some (bt515.1 == bt505.1)) else (none)) else (none)))) else (none))) else (none)) else (none)) else (none)) else (none))) else (none)) else (none))))))) = some r := h
 clear h
 replace H := Option.bind_eq_some_iff.mp H
 obtain ⟨t504, A40, H⟩ := H
 try dsimp only at H
 have A4 := Aside0.mk A40
 clear A40
 replace H := Option.bind_eq_some_iff.mp H
 obtain ⟨⟨t505, t506, t507, t508⟩, A50, H⟩ := H
 try dsimp only at H
 have A5 := Aside0.mk A50
 clear A50
 replace H := Option.bind_eq_some_iff.mp H
 obtain ⟨⟨t510, t511, t512, t513⟩, A60, H⟩ := H
 try dsimp only at H
 have A6 := Aside0.mk A60
 clear A60
 replace H := Option.bind_eq_some_iff.mp H
 obtain ⟨⟨t515, t516, t517, t518⟩, A70, H⟩ := H
 try dsimp only at H
 have A7 := Aside0.mk A70
 clear A70
 replace H := Option.bind_eq_some_iff.mp H
 obtain ⟨t520, A80, H⟩ := H
 try dsimp only at H
 have A8 := Aside0.mk A80
 clear A80
 by_cases c9 : 0 ≤ t520
 ·rw [if_pos c9] at H
  have c9b0 := eq_true c9
  have c9b1 : decide (0 ≤ t520) = true := decide_eq_true c9
  clear c9
  by_cases c10 : (t520 : Int).toNat ≤ 35184372088832
  ·rw [if_pos c10] at H
   have c10b0 := eq_true c10
   have c10b1 : decide ((t520 : Int).toNat ≤ 35184372088832) = true := decide_eq_true c10
   clear c10
   obtain ⟨y521, hy521⟩ : ∃ y_ : List Int, y_ = (List.replicate (t520 : Int).toNat 0) := ⟨_, rfl⟩
   replace H : ((panel_Swing.f k t505 t506 t507 y521).bind fun bt524 => (if t508 = true then (if t513 = 0 then (if t518 = 0 then (if bt524.2.2.2.2.2 = 0 then (if (wrap64 (bt524.2.2.2.1 + bt524.2.2.2.2.1)) > 1 then (none) else (if t504 = true then (if (t515 == t505 && (t516 == t506 && (t517 == t507))) = true then (some true) else (if t505 = 0 then (if t517 = 0 then (some (t515 == t505)) else (none)) else (if t505 = t506 then (if t517 = 0 then (some (t515 == t505)) else (none)) else (none)))) else (none))) else (none)) else (none)) else (none)) else (none))) = some r := by first | (rw [hy521]; with_reducible exact H) | (have H2_ := (Option.bind_some _ _).symm.trans H; rw [hy521]; with_reducible exact H2_) | (have H2_ := (Option.bind_some _ _).symm.trans H; with_reducible exact H2_) | with_reducible exact H | (rw [hy521]; exact H) | exact H
   have Ny521 := Aside0.mk hy521
   clear hy521
   replace H := Option.bind_eq_some_iff.mp H
   obtain ⟨⟨t524, t525, t526, t527, t528, t529⟩, A110, H⟩ := H
   replace H : (if t508 = true then (if t513 = 0 then (if t518 = 0 then (if t529 = 0 then (if (wrap64 (t527 + t528)) > 1 then (none) else (if t504 = true then (if (t515 == t505 && (t516 == t506 && (t517 == t507))) = true then (some true) else (if t505 = 0 then (if t517 = 0 then (some (t515 == t505)) else (none)) else (if t505 = t506 then (if t517 = 0 then (some (t515 == t505)) else (none)) else (none)))) else (none))) else (none)) else (none)) else (none)) else (none)) = some r := H
   have A11 := Aside0.mk A110
   clear A110
   by_cases c12 : t508 = true
   ·subst c12
    have H1 : (if t513 = 0 then (if t518 = 0 then (if t529 = 0 then (if (wrap64 (t527 + t528)) > 1 then (none) else (if t504 = true then (if (t515 == t505 && (t516 == t506 && (t517 == t507))) = true then (some true) else (if t505 = 0 then (if t517 = 0 then (some (t515 == t505)) else (none)) else (if t505 = t506 then (if t517 = 0 then (some (t515 == t505)) else (none)) else (none)))) else (none))) else (none)) else (none)) else (none)) = some r := by rw [if_pos rfl] at H; exact H
    clear H
    have H := H1
    clear H1
    by_cases c13 : t513 = 0
    ·rw [if_pos c13] at H
     have c13b0 : (t513 == 0) = true := beq_iff_eq.mpr c13
     have c13b1 : (t513 != 0) = false := bne_eq_false_iff_eq.mpr c13
     clear c13
     by_cases c14 : t518 = 0
     ·rw [if_pos c14] at H
      have c14b0 : (t518 == 0) = true := beq_iff_eq.mpr c14
      have c14b1 : (t518 != 0) = false := bne_eq_false_iff_eq.mpr c14
      clear c14
      by_cases c15 : t529 = 0
      ·rw [if_pos c15] at H
       have c15b0 : (t529 == 0) = true := beq_iff_eq.mpr c15
       have c15b1 : (t529 != 0) = false := bne_eq_false_iff_eq.mpr c15
       clear c15
       by_cases c16 : (wrap64 (t527 + t528)) > 1
       ·rw [if_pos c16] at H
        exact absurd H (by simp)
       ·rw [if_neg c16] at H
        have c16b0 : decide (1 < (wrap64 (t527 + t528))) = false := decide_eq_false c16
        clear c16
        by_cases c17 : t504 = true
        ·subst c17
         have H1 : (if (t515 == t505 && (t516 == t506 && (t517 == t507))) = true then (some true) else (if t505 = 0 then (if t517 = 0 then (some (t515 == t505)) else (none)) else (if t505 = t506 then (if t517 = 0 then (some (t515 == t505)) else (none)) else (none)))) = some r := by rw [if_pos rfl] at H; exact H
         clear H
         have H := H1
         clear H1
         by_cases c18 : (t515 == t505 && (t516 == t506 && (t517 == t507))) = true
         ·rw [if_pos c18] at H
          have c18b0 : (t515 == t505 && (t516 == t506 && (t517 == t507))) = true := c18
          (try (have c18b1 : decide (t515 = t505 && (t516 == t506 && (t517 == t507))) = true := by simpa using c18))
          (try (have c18b2 : (t515 == t505 && (t516 == t506 && (t517 == t507))) = true := by simpa using c18))
          clear c18
          obtain rfl := Option.some.inj H
          go_enter Try.func7, Try.ntmps7
          try go_wp2_with (first | ((with_reducible refine gate_callee (f := 4) rfl ?_); refine goesL_ (some 18) rfl rfl Try.func4 (by kernel_rfl) rfl #[] rfl (by (try simp only [List.map_toArray, List.map_cons, List.map_nil]); first | done | rfl | (simp only [List.length_drop, List.length_take]; rfl)) ?_; (with_reducible refine (tipstafflaw16_PanelKnown.calls k  true _ A4.out).mono ?_); rintro e w19 ⟨rfl, hb⟩; refine ⟨_, rfl, ?_⟩; have n0_ := Aside0.mk (below_step (by repeat (first | (with_reducible first | exact HB.out | apply below_alloc | apply pw_below_drewN | apply below_drew1) | exact HB.out)) hb); clear HB; have HB := n0_; clear n0_; (try clear hb); (try clear hb2); (try clear hk); (try clear hi)) | ((with_reducible refine gate_callee (f := 25) rfl ?_); refine goesL_ (some 22) rfl rfl Try.func25 (by kernel_rfl) rfl #[.int .i64 a0, .slice A1 l1.length c1] rfl (by (try simp only [List.map_toArray, List.map_cons, List.map_nil]); first | done | rfl | (simp only [List.length_drop, List.length_take]; rfl)) ?_; (with_reducible refine (tipstafflaw16_made.calls k a0 _ _ l1 t505 t506 t507 true _ ?side1 ?side2 A5.out).mono ?_); (case side1 => repeat (first | exact (Kd.C_below HR1.out HB.out) | (with_reducible refine Kd.C_alloc ?_ _) | (with_reducible refine Kd.C_drewN ?_ _) | (with_reducible refine Kd.C_drew ?_))); (case side2 => exact HC1.out); rintro e w20 ⟨rfl, hb⟩; refine ⟨_, rfl, ?_⟩; have n0_ := Aside0.mk (below_step (by repeat (first | (with_reducible first | exact HB.out | apply below_alloc | apply pw_below_drewN | apply below_drew1) | exact HB.out)) hb); clear HB; have HB := n0_; clear n0_; (try clear hb); (try clear hb2); (try clear hk); (try clear hi)) | ((with_reducible refine gate_dst (N := 8) rfl ?_); refine box_event ?hg (N := 8) ?hd (cs := #[.int .i64 0, .int .i64 0, .int .i64 0]) (t := 23) ?hr ?_; (case hd => rfl); (case hg => rfl); (case hr => first | (go_simp; done) | (go_simp; rfl)); intro gb509 hg w21 hbox hb; have n0_ := Aside0.mk (below_step (by repeat (first | (with_reducible first | exact HB.out | apply below_alloc | apply pw_below_drewN | apply below_drew1) | exact HB.out)) hb); have n1_ := Aside0.mk (hbox); have n2_ := Aside0.mk ((by rw [hg]; exact (below_size (by repeat (first | (with_reducible first | exact HB.out | apply below_alloc | apply pw_below_drewN | apply below_drew1) | exact HB.out))) : w.heap.size ≤ gb509)); have n3_ := Aside0.mk ((by rw [hg]; exact (below_size (by repeat (first | (with_reducible first | exact HB.out | apply below_alloc | apply pw_below_drewN | apply below_drew1) | exact HB.out))) : w.heap.size ≤ gb509)); clear HB; have HB := n0_; have BK509 := n1_; have GW509 := n2_; have GE509 := n3_; clear n0_ n1_ n2_ n3_; clear hb hbox hg; have hcz22_0 : w21.cell? ⟨gb509, 0, none⟩ = some (.int .i64 0) := (blk_cell BK509.out 0).trans rfl; have hcz22_1 : w21.cell? ⟨gb509, 1, none⟩ = some (.int .i64 0) := (blk_cell BK509.out 1).trans rfl; have hcz22_2 : w21.cell? ⟨gb509, 2, none⟩ = some (.int .i64 0) := (blk_cell BK509.out 2).trans rfl; have hfz22_0 := blk_frozen BK509.out 0; have hfz22_1 := blk_frozen BK509.out 1; have hfz22_2 := blk_frozen BK509.out 2) | ((with_reducible refine gate_callee (f := 20) rfl ?_); refine goesL_ (some 27) rfl rfl Try.func20 (by kernel_rfl) rfl #[.agg #[.int .i64 t505, .int .i64 t506, .int .i64 t507], .int .i64 4] rfl (by (try simp only [List.map_toArray, List.map_cons, List.map_nil]); first | done | rfl | (simp only [List.length_drop, List.length_take]; rfl)) ?_; (with_reducible refine (panel_Order.calls k t505 t506 t507 4 t510 t511 t512 t513 _ A6.out).mono ?_); rintro e w23 ⟨rfl, hb⟩; refine ⟨_, rfl, ?_⟩; have n0_ := Aside0.mk (blk_below (g := gb509) (o := .cells #[.int .i64 t505, .int .i64 t506, .int .i64 t507] 23 (0, 0)) (by (with_reducible repeat (first | refine blk_drewN ?_ _ | refine blk_drew ?_ | refine blk_alloc ?_ _)); refine blk_put (cs := #[.int .i64 t505, .int .i64 t506, .int .i64 0]) ?_ 2 _ rfl; (with_reducible repeat (first | refine blk_drewN ?_ _ | refine blk_drew ?_ | refine blk_alloc ?_ _)); refine blk_put (cs := #[.int .i64 t505, .int .i64 0, .int .i64 0]) ?_ 1 _ rfl; (with_reducible repeat (first | refine blk_drewN ?_ _ | refine blk_drew ?_ | refine blk_alloc ?_ _)); refine blk_put (cs := #[.int .i64 0, .int .i64 0, .int .i64 0]) ?_ 0 _ rfl; (with_reducible repeat (first | refine blk_drewN ?_ _ | refine blk_drew ?_ | refine blk_alloc ?_ _)); exact BK509.out) hb); have n1_ := Aside0.mk (below_step (by repeat (first | (with_reducible first | exact HB.out | apply below_alloc | apply pw_below_drewN | apply below_drew1 | refine below_set ?_ GE509.out) | exact HB.out)) hb); clear BK509; clear HB; have BK509 := n0_; have HB := n1_; clear n0_ n1_; (try clear hb); (try clear hb2); (try clear hk); (try clear hi)) | ((with_reducible refine gate_dst (N := 10) rfl ?_); refine box_event ?hg (N := 10) ?hd (cs := #[.int .i64 0, .int .i64 0, .int .i64 0]) (t := 23) ?hr ?_; (case hd => rfl); (case hg => rfl); (case hr => first | (go_simp; done) | (go_simp; rfl)); intro gb514 hg w24 hbox hb; have n0_ := Aside0.mk (blk_below (g := gb509) (o := .cells #[.int .i64 t505, .int .i64 t506, .int .i64 t507] 23 (0, 0)) (by (with_reducible repeat (first | refine blk_drewN ?_ _ | refine blk_drew ?_ | refine blk_alloc ?_ _)); exact BK509.out) hb); have n1_ := Aside0.mk (below_step (by repeat (first | (with_reducible first | exact HB.out | apply below_alloc | apply pw_below_drewN | apply below_drew1 | refine below_set ?_ GE509.out) | exact HB.out)) hb); have n2_ := Aside0.mk (hbox); have n3_ := Aside0.mk ((by rw [hg]; exact (below_size (by repeat (first | (with_reducible first | exact HB.out | apply below_alloc | apply pw_below_drewN | apply below_drew1 | refine below_set ?_ GE509.out) | exact HB.out))) : w.heap.size ≤ gb514)); have n4_ := Aside0.mk ((by rw [hg]; exact (below_size (by repeat (first | (with_reducible first | exact HB.out | apply below_alloc | apply pw_below_drewN | apply below_drew1 | refine below_set ?_ GE509.out) | exact HB.out))) : w.heap.size ≤ gb514)); have n5_ := Aside0.mk ((by rw [hg]; exact Nat.ne_of_lt (blk_lt (g := gb509) (o := .cells #[.int .i64 t505, .int .i64 t506, .int .i64 t507] 23 (0, 0)) (by (with_reducible repeat (first | refine blk_drewN ?_ _ | refine blk_drew ?_ | refine blk_alloc ?_ _)); exact BK509.out)) : gb509 ≠ gb514)); have n6_ := Aside0.mk ((by rw [hg]; exact Nat.ne_of_gt (blk_lt (g := gb509) (o := .cells #[.int .i64 t505, .int .i64 t506, .int .i64 t507] 23 (0, 0)) (by (with_reducible repeat (first | refine blk_drewN ?_ _ | refine blk_drew ?_ | refine blk_alloc ?_ _)); exact BK509.out)) : gb514 ≠ gb509)); clear BK509; clear HB; have BK509 := n0_; have HB := n1_; have BK514 := n2_; have GW514 := n3_; have GE514 := n4_; have NB509_514 := n5_; have NB514_509 := n6_; clear n0_ n1_ n2_ n3_ n4_ n5_ n6_; clear hb hbox hg; have hnb25 := NB514_509.out; have hnc25 := NB509_514.out; have hcz26_0 : w24.cell? ⟨gb514, 0, none⟩ = some (.int .i64 0) := (blk_cell BK514.out 0).trans rfl; have hcz26_1 : w24.cell? ⟨gb514, 1, none⟩ = some (.int .i64 0) := (blk_cell BK514.out 1).trans rfl; have hcz26_2 : w24.cell? ⟨gb514, 2, none⟩ = some (.int .i64 0) := (blk_cell BK514.out 2).trans rfl; have hfz26_0 := blk_frozen BK514.out 0; have hfz26_1 := blk_frozen BK514.out 1; have hfz26_2 := blk_frozen BK514.out 2) | ((with_reducible refine gate_callee (f := 20) rfl ?_); refine goesL_ (some 32) rfl rfl Try.func20 (by kernel_rfl) rfl #[.agg #[.int .i64 t510, .int .i64 t511, .int .i64 t512], .int .i64 4] rfl (by (try simp only [List.map_toArray, List.map_cons, List.map_nil]); first | done | rfl | (simp only [List.length_drop, List.length_take]; rfl)) ?_; (with_reducible refine (panel_Order.calls k t510 t511 t512 4 t515 t516 t517 t518 _ A7.out).mono ?_); rintro e w27 ⟨rfl, hb⟩; refine ⟨_, rfl, ?_⟩; have n0_ := Aside0.mk (blk_below (g := gb509) (o := .cells #[.int .i64 t505, .int .i64 t506, .int .i64 t507] 23 (0, 0)) (by (with_reducible repeat (first | refine blk_drewN ?_ _ | refine blk_drew ?_ | refine blk_alloc ?_ _)); refine blk_far ?_ NB509_514.out _; (with_reducible repeat (first | refine blk_drewN ?_ _ | refine blk_drew ?_ | refine blk_alloc ?_ _)); refine blk_far ?_ NB509_514.out _; (with_reducible repeat (first | refine blk_drewN ?_ _ | refine blk_drew ?_ | refine blk_alloc ?_ _)); refine blk_far ?_ NB509_514.out _; (with_reducible repeat (first | refine blk_drewN ?_ _ | refine blk_drew ?_ | refine blk_alloc ?_ _)); exact BK509.out) hb); have n1_ := Aside0.mk (blk_below (g := gb514) (o := .cells #[.int .i64 t510, .int .i64 t511, .int .i64 t512] 23 (0, 0)) (by (with_reducible repeat (first | refine blk_drewN ?_ _ | refine blk_drew ?_ | refine blk_alloc ?_ _)); refine blk_put (cs := #[.int .i64 t510, .int .i64 t511, .int .i64 0]) ?_ 2 _ rfl; (with_reducible repeat (first | refine blk_drewN ?_ _ | refine blk_drew ?_ | refine blk_alloc ?_ _)); refine blk_put (cs := #[.int .i64 t510, .int .i64 0, .int .i64 0]) ?_ 1 _ rfl; (with_reducible repeat (first | refine blk_drewN ?_ _ | refine blk_drew ?_ | refine blk_alloc ?_ _)); refine blk_put (cs := #[.int .i64 0, .int .i64 0, .int .i64 0]) ?_ 0 _ rfl; (with_reducible repeat (first | refine blk_drewN ?_ _ | refine blk_drew ?_ | refine blk_alloc ?_ _)); exact BK514.out) hb); have n2_ := Aside0.mk (below_step (by repeat (first | (with_reducible first | exact HB.out | apply below_alloc | apply pw_below_drewN | apply below_drew1 | refine below_set ?_ GE509.out | refine below_set ?_ GE514.out) | exact HB.out)) hb); clear BK509; clear BK514; clear HB; have BK509 := n0_; have BK514 := n1_; have HB := n2_; clear n0_ n1_ n2_; (try clear hb); (try clear hb2); (try clear hk); (try clear hi)) | ((with_reducible refine gate_dst (N := 12) rfl ?_); refine box_event ?hg (N := 12) ?hd (cs := #[.int .i64 0, .int .i64 0, .int .i64 0]) (t := 23) ?hr ?_; (case hd => rfl); (case hg => rfl); (case hr => first | (go_simp; done) | (go_simp; rfl)); intro gb519 hg w28 hbox hb; have n0_ := Aside0.mk (blk_below (g := gb509) (o := .cells #[.int .i64 t505, .int .i64 t506, .int .i64 t507] 23 (0, 0)) (by (with_reducible repeat (first | refine blk_drewN ?_ _ | refine blk_drew ?_ | refine blk_alloc ?_ _)); exact BK509.out) hb); have n1_ := Aside0.mk (blk_below (g := gb514) (o := .cells #[.int .i64 t510, .int .i64 t511, .int .i64 t512] 23 (0, 0)) (by (with_reducible repeat (first | refine blk_drewN ?_ _ | refine blk_drew ?_ | refine blk_alloc ?_ _)); exact BK514.out) hb); have n2_ := Aside0.mk (below_step (by repeat (first | (with_reducible first | exact HB.out | apply below_alloc | apply pw_below_drewN | apply below_drew1 | refine below_set ?_ GE509.out | refine below_set ?_ GE514.out) | exact HB.out)) hb); have n3_ := Aside0.mk (hbox); have n4_ := Aside0.mk ((by rw [hg]; exact (below_size (by repeat (first | (with_reducible first | exact HB.out | apply below_alloc | apply pw_below_drewN | apply below_drew1 | refine below_set ?_ GE509.out | refine below_set ?_ GE514.out) | exact HB.out))) : w.heap.size ≤ gb519)); have n5_ := Aside0.mk ((by rw [hg]; exact (below_size (by repeat (first | (with_reducible first | exact HB.out | apply below_alloc | apply pw_below_drewN | apply below_drew1 | refine below_set ?_ GE509.out | refine below_set ?_ GE514.out) | exact HB.out))) : w.heap.size ≤ gb519)); have n6_ := Aside0.mk ((by rw [hg]; exact Nat.ne_of_lt (blk_lt (g := gb509) (o := .cells #[.int .i64 t505, .int .i64 t506, .int .i64 t507] 23 (0, 0)) (by (with_reducible repeat (first | refine blk_drewN ?_ _ | refine blk_drew ?_ | refine blk_alloc ?_ _)); exact BK509.out)) : gb509 ≠ gb519)); have n7_ := Aside0.mk ((by rw [hg]; exact Nat.ne_of_gt (blk_lt (g := gb509) (o := .cells #[.int .i64 t505, .int .i64 t506, .int .i64 t507] 23 (0, 0)) (by (with_reducible repeat (first | refine blk_drewN ?_ _ | refine blk_drew ?_ | refine blk_alloc ?_ _)); exact BK509.out)) : gb519 ≠ gb509)); have n8_ := Aside0.mk ((by rw [hg]; exact Nat.ne_of_lt (blk_lt (g := gb514) (o := .cells #[.int .i64 t510, .int .i64 t511, .int .i64 t512] 23 (0, 0)) (by (with_reducible repeat (first | refine blk_drewN ?_ _ | refine blk_drew ?_ | refine blk_alloc ?_ _)); exact BK514.out)) : gb514 ≠ gb519)); have n9_ := Aside0.mk ((by rw [hg]; exact Nat.ne_of_gt (blk_lt (g := gb514) (o := .cells #[.int .i64 t510, .int .i64 t511, .int .i64 t512] 23 (0, 0)) (by (with_reducible repeat (first | refine blk_drewN ?_ _ | refine blk_drew ?_ | refine blk_alloc ?_ _)); exact BK514.out)) : gb519 ≠ gb514)); clear BK509; clear BK514; clear HB; have BK509 := n0_; have BK514 := n1_; have HB := n2_; have BK519 := n3_; have GW519 := n4_; have GE519 := n5_; have NB509_519 := n6_; have NB519_509 := n7_; have NB514_519 := n8_; have NB519_514 := n9_; clear n0_ n1_ n2_ n3_ n4_ n5_ n6_ n7_ n8_ n9_; clear hb hbox hg; have hnb29 := NB519_509.out; have hnc29 := NB509_519.out; have hnb30 := NB519_514.out; have hnc30 := NB514_519.out; have hcz31_0 : w28.cell? ⟨gb519, 0, none⟩ = some (.int .i64 0) := (blk_cell BK519.out 0).trans rfl; have hcz31_1 : w28.cell? ⟨gb519, 1, none⟩ = some (.int .i64 0) := (blk_cell BK519.out 1).trans rfl; have hcz31_2 : w28.cell? ⟨gb519, 2, none⟩ = some (.int .i64 0) := (blk_cell BK519.out 2).trans rfl; have hfz31_0 := blk_frozen BK519.out 0; have hfz31_1 := blk_frozen BK519.out 1; have hfz31_2 := blk_frozen BK519.out 2))
          have n0_ : Aside0 ((((w28.setCell ⟨gb519, 0, none⟩ (.int .i64 t515)).setCell ⟨gb519, 1, none⟩ (.int .i64 t516)).setCell ⟨gb519, 2, none⟩ (.int .i64 t517)).heap[gb509]? = some (.cells #[.int .i64 t505, .int .i64 t506, .int .i64 t507] 23 (0, 0))) := ⟨by (with_reducible repeat (first | refine blk_drewN ?_ _ | refine blk_drew ?_ | refine blk_alloc ?_ _)); refine blk_far ?_ NB509_519.out _; (with_reducible repeat (first | refine blk_drewN ?_ _ | refine blk_drew ?_ | refine blk_alloc ?_ _)); refine blk_far ?_ NB509_519.out _; (with_reducible repeat (first | refine blk_drewN ?_ _ | refine blk_drew ?_ | refine blk_alloc ?_ _)); refine blk_far ?_ NB509_519.out _; (with_reducible repeat (first | refine blk_drewN ?_ _ | refine blk_drew ?_ | refine blk_alloc ?_ _)); exact BK509.out⟩
          have n1_ : Aside0 ((((w28.setCell ⟨gb519, 0, none⟩ (.int .i64 t515)).setCell ⟨gb519, 1, none⟩ (.int .i64 t516)).setCell ⟨gb519, 2, none⟩ (.int .i64 t517)).heap[gb514]? = some (.cells #[.int .i64 t510, .int .i64 t511, .int .i64 t512] 23 (0, 0))) := ⟨by (with_reducible repeat (first | refine blk_drewN ?_ _ | refine blk_drew ?_ | refine blk_alloc ?_ _)); refine blk_far ?_ NB514_519.out _; (with_reducible repeat (first | refine blk_drewN ?_ _ | refine blk_drew ?_ | refine blk_alloc ?_ _)); refine blk_far ?_ NB514_519.out _; (with_reducible repeat (first | refine blk_drewN ?_ _ | refine blk_drew ?_ | refine blk_alloc ?_ _)); refine blk_far ?_ NB514_519.out _; (with_reducible repeat (first | refine blk_drewN ?_ _ | refine blk_drew ?_ | refine blk_alloc ?_ _)); exact BK514.out⟩
          have n2_ : Aside0 ((((w28.setCell ⟨gb519, 0, none⟩ (.int .i64 t515)).setCell ⟨gb519, 1, none⟩ (.int .i64 t516)).setCell ⟨gb519, 2, none⟩ (.int .i64 t517)).heap[gb519]? = some (.cells #[.int .i64 t515, .int .i64 t516, .int .i64 t517] 23 (0, 0))) := ⟨by (with_reducible repeat (first | refine blk_drewN ?_ _ | refine blk_drew ?_ | refine blk_alloc ?_ _)); refine blk_put (cs := #[.int .i64 t515, .int .i64 t516, .int .i64 0]) ?_ 2 _ rfl; (with_reducible repeat (first | refine blk_drewN ?_ _ | refine blk_drew ?_ | refine blk_alloc ?_ _)); refine blk_put (cs := #[.int .i64 t515, .int .i64 0, .int .i64 0]) ?_ 1 _ rfl; (with_reducible repeat (first | refine blk_drewN ?_ _ | refine blk_drew ?_ | refine blk_alloc ?_ _)); refine blk_put (cs := #[.int .i64 0, .int .i64 0, .int .i64 0]) ?_ 0 _ rfl; (with_reducible repeat (first | refine blk_drewN ?_ _ | refine blk_drew ?_ | refine blk_alloc ?_ _)); exact BK519.out⟩
          have n3_ : Aside0 (Below w.heap.size w (((w28.setCell ⟨gb519, 0, none⟩ (.int .i64 t515)).setCell ⟨gb519, 1, none⟩ (.int .i64 t516)).setCell ⟨gb519, 2, none⟩ (.int .i64 t517))) := ⟨by repeat (first | (with_reducible first | exact HB.out | apply below_alloc | apply pw_below_drewN | apply below_drew1 | refine below_set ?_ GE509.out | refine below_set ?_ GE514.out | refine below_set ?_ GE519.out) | exact HB.out)⟩
          (try clear BK509)
          (try clear BK514)
          (try clear BK519)
          (try clear HB)
          generalize (((w28.setCell ⟨gb519, 0, none⟩ (.int .i64 t515)).setCell ⟨gb519, 1, none⟩ (.int .i64 t516)).setCell ⟨gb519, 2, none⟩ (.int .i64 t517)) = w32 at n0_ n1_ n2_ n3_ ⊢
          have BK509 := n0_
          have BK514 := n1_
          have BK519 := n2_
          have HB := n3_
          clear n0_ n1_ n2_ n3_
          have n0_ := Aside0.mk (blk_drew BK509.out)
          have n1_ := Aside0.mk (blk_drew BK514.out)
          have n2_ := Aside0.mk (blk_drew BK519.out)
          have n3_ := Aside0.mk (below_drew1 HB.out)
          clear BK509
          clear BK514
          clear BK519
          clear HB
          have BK509 := n0_
          have BK514 := n1_
          have BK519 := n2_
          have HB := n3_
          clear n0_ n1_ n2_ n3_
          refine start_ (n := 15) (S := fun w' => w'.cell? ⟨gb509, 0, none⟩ = some (.int .i64 t505) ∧ w'.cell? ⟨gb509, 1, none⟩ = some (.int .i64 t506) ∧ w'.cell? ⟨gb509, 2, none⟩ = some (.int .i64 t507)) (ds := []) #[Z,Z,Z,Z,Z,Z,Z,Z,Z,Z,Z,Z,Z,Z,Z] (by kernel_rfl) rfl rfl ⟨(blk_cell BK509.out 0).trans rfl, (blk_cell BK509.out 1).trans rfl, (blk_cell BK509.out 2).trans rfl⟩ (fun hHeld => ?_); refine with_tabW tipstafflaw16_PanelBack.tab5 tipstafflaw16_PanelBack.bits5 (fun HT_ HW_ => ?_)
          generalize w32.drew = w33 at BK509 BK514 BK519 HB hHeld ⊢
          refine pure_ (i := 1) (N := some 37) (v := ?_) (a' := ?_) #[Z,X,Z,Z,Z,Z,Z,Z,Z,Z,Z,Z,Z,Z,Z] rfl rfl (any_of HT_.out (by kernel_rfl)) (fun _ _ _ h => h) (Or.inl ⟨by rfl, ?_⟩) ?_ ?_
          rotate_left
          ·intro w'
           go_simp
           with_reducible rfl
          rotate_left
          ·simp only [Act.put, sA, sB, sC, i64_w, i32_w]
           rfl
          refine take_ (i := 0) (N := some 36) (v := ?_) (a' := ?_) #[X,X,Z,Z,Z,Z,Z,Z,Z,Z,Z,Z,Z,Z,Z] rfl rfl (take_ofW HT_.out HW_.out (by kernel_rfl)) (fun _ _ _ h => h) (Or.inl ⟨by rfl, ?_⟩) hHeld ?_ ?_
          rotate_left
          ·rintro w' ⟨s0, s1, s2⟩
           go_simp
           with_reducible rfl
          rotate_left
          ·simp only [Act.put, sA, sB, sC, i64_w, i32_w]
           rfl
          refine join_ (σ := Value × Nat) 4 #[X,X,X,X,X,X,X,X,X,X,X,Z,Z,Z,Z] (fun s_ => [(38, .int .i64 t520), (39, s_.1), (40, .tuple #[.agg #[.int .i64 t524, .int .i64 t525, .int .i64 t526], .int .i64 t527, .int .i64 t528, .int .i64 t529]), (14, .pointer (some ⟨s_.2, 0, none⟩)), (35, .tuple #[.agg #[.int .i64 t524, .int .i64 t525, .int .i64 t526], .int .i64 t527, .int .i64 t528, .int .i64 t529]), (41, .agg #[.int .i64 t524, .int .i64 t525, .int .i64 t526]), (42, .int .i64 t527), (43, .int .i64 t528), (44, .int .i64 t529)]) (fun s_ w' => (w'.cell? ⟨gb509, 0, none⟩ = some (.int .i64 t505) ∧ w'.cell? ⟨gb509, 1, none⟩ = some (.int .i64 t506) ∧ w'.cell? ⟨gb509, 2, none⟩ = some (.int .i64 t507)) ∧ (Kd.R (Kd.int .i64) 3 w' w.heap.size (fun _ => True) s_.1 y521) ∧ (w'.heap[gb509]? = some (.cells #[.int .i64 t505, .int .i64 t506, .int .i64 t507] 23 (0, 0))) ∧ (w'.heap[gb514]? = some (.cells #[.int .i64 t510, .int .i64 t511, .int .i64 t512] 23 (0, 0))) ∧ (w'.heap[gb519]? = some (.cells #[.int .i64 t515, .int .i64 t516, .int .i64 t517] 23 (0, 0))) ∧ (w'.heap[s_.2]? = some (.cells #[.int .i64 0, .int .i64 0, .int .i64 0] 23 (0, 0))) ∧ (w.heap.size ≤ s_.2) ∧ (w.heap.size ≤ s_.2) ∧ (gb509 ≠ s_.2) ∧ (s_.2 ≠ gb509) ∧ (gb514 ≠ s_.2) ∧ (s_.2 ≠ gb514) ∧ (gb519 ≠ s_.2) ∧ (s_.2 ≠ gb519) ∧ (Below w.heap.size w w')) ?_ ?_
          rotate_left
          ·intro hCont
           refine two_ (i := 2) (j := 10) (Ni := some 38) (Nj := some 14) #[X,X,X,Z,Z,Z,Z,Z,Z,Z,Z,Z,Z,Z,Z] #[X,X,Z,Z,Z,Z,Z,Z,Z,Z,X,Z,Z,Z,Z] rfl rfl rfl rfl (two_of HT_.out (by kernel_rfl)) (by decide) (by decide) (fun K hK => ?_) (fun K hK => ?_)
           ·skip
            refine goes_ Try.func26 (by kernel_rfl) rfl #[.int .i64 a2, .int .i64 60] (by rfl) rfl rfl (by (try simp only [List.map_toArray, List.map_cons, List.map_nil]); first | done | rfl | (simp only [List.length_drop, List.length_take]; rfl)) ?_
            with_reducible refine (tipstaffkit_Mod.calls a2 60 t520 _ A8.out).mono ?_
            rintro e w' ⟨rfl, ⟨nd, rfl⟩⟩
            refine ⟨_, rfl, ?_⟩
            refine hK.out _ _ ⟨(blk_cell BK509.out 0).trans rfl, (blk_cell BK509.out 1).trans rfl, (blk_cell BK509.out 2).trans rfl⟩ (fun hHeld => ?_)
            clear hK K
            refine norm_ (a' := ?_) ?_ ?_
            rotate_left
            ·show Act.put _ (some 38) _ = _
             simp only [Act.put, sA, sB, sC, i64_w, i32_w]
             rfl
            refine two_ (i := 3) (j := 10) (Ni := some 39) (Nj := some 14) #[X,X,X,X,Z,Z,Z,Z,Z,Z,Z,Z,Z,Z,Z] #[X,X,X,Z,Z,Z,Z,Z,Z,Z,X,Z,Z,Z,Z] rfl rfl rfl rfl (two_of HT_.out (by kernel_rfl)) (by decide) (by decide) (fun K hK => ?_) (fun K hK => ?_)
            ·skip
             refine Kd.R_make_step (Kd.int .i64) _ 3 (by rfl) (N := 39) rfl 24 _ _ rfl t520 rfl rfl Try.underlying24 (.int .i64 0) 8 info3 rfl (by decide) (by omega) 0 (ok := fun _ => True) (okp := fun _ => True) rfl (fun _ hk => hk) trivial (of_decide_eq_true (by first | (with_reducible assumption) | assumption)) (Nat.le_trans (Nat.mul_le_mul_right _ (of_decide_eq_true (by first | (with_reducible assumption) | assumption) : t520.toNat ≤ 35184372088832)) (by omega)) (Below.refl _ _) (Nat.le_refl _) ?_
             intro v522 w34 ho35 hb hg_ hnew_
             clear hg_ hnew_
             (first | rw [← Ny521.out] at ho35 | (simp only [Int.reduceToNat] at ho35; rw [← Ny521.out] at ho35))
             have n0_ := Aside0.mk (Kd.R_lower ho35 (below_size (by repeat (first | (with_reducible first | exact HB.out | apply below_alloc | apply pw_below_drewN | apply below_drew1 | refine below_set ?_ GE509.out | refine below_set ?_ GE514.out | refine below_set ?_ GE519.out) | exact HB.out))))
             have n1_ := Aside0.mk (blk_below (g := gb509) (o := .cells #[.int .i64 t505, .int .i64 t506, .int .i64 t507] 23 (0, 0)) (by (with_reducible repeat (first | refine blk_drewN ?_ _ | refine blk_drew ?_ | refine blk_alloc ?_ _)); exact BK509.out) hb)
             have n2_ := Aside0.mk (blk_below (g := gb514) (o := .cells #[.int .i64 t510, .int .i64 t511, .int .i64 t512] 23 (0, 0)) (by (with_reducible repeat (first | refine blk_drewN ?_ _ | refine blk_drew ?_ | refine blk_alloc ?_ _)); exact BK514.out) hb)
             have n3_ := Aside0.mk (blk_below (g := gb519) (o := .cells #[.int .i64 t515, .int .i64 t516, .int .i64 t517] 23 (0, 0)) (by (with_reducible repeat (first | refine blk_drewN ?_ _ | refine blk_drew ?_ | refine blk_alloc ?_ _)); exact BK519.out) hb)
             have n4_ := Aside0.mk (below_step (by repeat (first | (with_reducible first | exact HB.out | apply below_alloc | apply pw_below_drewN | apply below_drew1 | refine below_set ?_ GE509.out | refine below_set ?_ GE514.out | refine below_set ?_ GE519.out) | exact HB.out)) hb)
             clear BK509
             clear BK514
             clear BK519
             clear HB
             have HO523 := n0_
             have BK509 := n1_
             have BK514 := n2_
             have BK519 := n3_
             have HB := n4_
             clear n0_ n1_ n2_ n3_ n4_
             clear hb ho35
             obtain ⟨Ao36, co36, eo36⟩ := Kd.R_slice HO523.out
             (first | subst eo36 | (injection eo36 with f1_ f2_ f3_; have f4_ := f1_.symm; have f5_ := f3_.symm; clear f1_ f2_ f3_; subst f4_; subst f5_))
             refine hK.out _ _ ⟨(blk_cell BK509.out 0).trans rfl, (blk_cell BK509.out 1).trans rfl, (blk_cell BK509.out 2).trans rfl⟩ (fun hHeld => ?_)
             clear hK K
             refine norm_ (a' := ?_) ?_ ?_
             rotate_left
             ·show Act.put _ (some 39) _ = _
              simp only [Act.put, sA, sB, sC, i64_w, i32_w]
              rfl
             refine two_ (i := 4) (j := 10) (Ni := some 40) (Nj := some 14) #[X,X,X,X,X,Z,Z,Z,Z,Z,Z,Z,Z,Z,Z] #[X,X,X,X,Z,Z,Z,Z,Z,Z,X,Z,Z,Z,Z] rfl rfl rfl rfl (two_of HT_.out (by kernel_rfl)) (by decide) (by decide) (fun K hK => ?_) (fun K hK => ?_)
             ·skip
              refine goes_ Try.func11 (by kernel_rfl) rfl #[.agg #[.int .i64 t505, .int .i64 t506, .int .i64 t507], .slice Ao36 y521.length co36] (by rfl) rfl rfl (by (try simp only [List.map_toArray, List.map_cons, List.map_nil]); first | done | rfl | (simp only [List.length_drop, List.length_take]; rfl)) ?_
              with_reducible refine (panel_Swing.calls k t505 t506 t507 _ _ y521 t524 t525 t526 t527 t528 t529 _ ?side1 ?side2 A11.out).mono ?_
              (case side1 => repeat (first | exact (Kd.R_reads' HO523.out).2.2 | (with_reducible refine Kd.C_alloc ?_ _) | (with_reducible refine Kd.C_drewN ?_ _) | (with_reducible refine Kd.C_drew ?_)))
              (case side2 => exact (Kd.R_reads' HO523.out).2.1)
              rintro e w37 ⟨rfl, hb⟩
              refine ⟨_, rfl, ?_⟩
              have n0_ := Aside0.mk (Kd.R_below (by (with_reducible repeat (first | apply Kd.R_alloc | apply Kd.R_drewN | apply Kd.R_drew)); exact HO523.out) hb)
              have n1_ := Aside0.mk (blk_below (g := gb509) (o := .cells #[.int .i64 t505, .int .i64 t506, .int .i64 t507] 23 (0, 0)) (by (with_reducible repeat (first | refine blk_drewN ?_ _ | refine blk_drew ?_ | refine blk_alloc ?_ _)); exact BK509.out) hb)
              have n2_ := Aside0.mk (blk_below (g := gb514) (o := .cells #[.int .i64 t510, .int .i64 t511, .int .i64 t512] 23 (0, 0)) (by (with_reducible repeat (first | refine blk_drewN ?_ _ | refine blk_drew ?_ | refine blk_alloc ?_ _)); exact BK514.out) hb)
              have n3_ := Aside0.mk (blk_below (g := gb519) (o := .cells #[.int .i64 t515, .int .i64 t516, .int .i64 t517] 23 (0, 0)) (by (with_reducible repeat (first | refine blk_drewN ?_ _ | refine blk_drew ?_ | refine blk_alloc ?_ _)); exact BK519.out) hb)
              have n4_ := Aside0.mk (below_step (by repeat (first | (with_reducible first | exact HB.out | apply below_alloc | apply pw_below_drewN | apply below_drew1 | refine below_set ?_ GE509.out | refine below_set ?_ GE514.out | refine below_set ?_ GE519.out) | exact HB.out)) hb)
              clear HO523
              clear BK509
              clear BK514
              clear BK519
              clear HB
              have HO523 := n0_
              have BK509 := n1_
              have BK514 := n2_
              have BK519 := n3_
              have HB := n4_
              clear n0_ n1_ n2_ n3_ n4_
              (try clear hb)
              (try clear hb2)
              (try clear hk)
              (try clear hi)
              refine hK.out _ _ ⟨(blk_cell BK509.out 0).trans rfl, (blk_cell BK509.out 1).trans rfl, (blk_cell BK509.out 2).trans rfl⟩ (fun hHeld => ?_)
              clear hK K
              refine norm_ (a' := ?_) ?_ ?_
              rotate_left
              ·show Act.put _ (some 40) _ = _
               simp only [Act.put, sA, sB, sC, i64_w, i32_w]
               rfl
              refine pure_ (i := 5) (N := some 35) (v := ?_) (a' := ?_) #[X,X,X,X,X,X,Z,Z,Z,Z,Z,Z,Z,Z,Z] rfl rfl (any_of HT_.out (by kernel_rfl)) (fun _ _ _ h => h) (Or.inl ⟨by rfl, ?_⟩) ?_ ?_
              rotate_left
              ·intro w'
               go_simp
               with_reducible rfl
              rotate_left
              ·simp only [Act.put, sA, sB, sC, i64_w, i32_w]
               rfl
              refine pure_ (i := 6) (N := some 41) (v := ?_) (a' := ?_) #[X,X,X,X,X,X,X,Z,Z,Z,Z,Z,Z,Z,Z] rfl rfl (any_of HT_.out (by kernel_rfl)) (fun _ _ _ h => h) (Or.inl ⟨by rfl, ?_⟩) ?_ ?_
              rotate_left
              ·intro w'
               go_simp
               with_reducible rfl
              rotate_left
              ·simp only [Act.put, sA, sB, sC, i64_w, i32_w]
               rfl
              refine pure_ (i := 7) (N := some 42) (v := ?_) (a' := ?_) #[X,X,X,X,X,X,X,X,Z,Z,Z,Z,Z,Z,Z] rfl rfl (any_of HT_.out (by kernel_rfl)) (fun _ _ _ h => h) (Or.inl ⟨by rfl, ?_⟩) ?_ ?_
              rotate_left
              ·intro w'
               go_simp
               with_reducible rfl
              rotate_left
              ·simp only [Act.put, sA, sB, sC, i64_w, i32_w]
               rfl
              refine pure_ (i := 8) (N := some 43) (v := ?_) (a' := ?_) #[X,X,X,X,X,X,X,X,X,Z,Z,Z,Z,Z,Z] rfl rfl (any_of HT_.out (by kernel_rfl)) (fun _ _ _ h => h) (Or.inl ⟨by rfl, ?_⟩) ?_ ?_
              rotate_left
              ·intro w'
               go_simp
               with_reducible rfl
              rotate_left
              ·simp only [Act.put, sA, sB, sC, i64_w, i32_w]
               rfl
              refine pure_ (i := 9) (N := some 44) (v := ?_) (a' := ?_) #[X,X,X,X,X,X,X,X,X,X,Z,Z,Z,Z,Z] rfl rfl (any_of HT_.out (by kernel_rfl)) (fun _ _ _ h => h) (Or.inl ⟨by rfl, ?_⟩) ?_ ?_
              rotate_left
              ·intro w'
               go_simp
               with_reducible rfl
              rotate_left
              ·simp only [Act.put, sA, sB, sC, i64_w, i32_w]
               rfl
              refine one_ (i := 10) (N := some 14) #[X,X,X,X,X,X,X,X,X,X,X,Z,Z,Z,Z] rfl rfl (one_of HT_.out (by kernel_rfl)) (by decide) (fun K hK => ?_)
              refine box_step ?hg (N := 14) ?hd (cs := #[.int .i64 0, .int .i64 0, .int .i64 0]) (t := 23) ?hr ?_; (case hd => rfl); (case hg => rfl); (case hr => first | (go_simp; done) | (go_simp; rfl))
              intro gb530 hg w38 hbox hb
              have n0_ := Aside0.mk (Kd.R_below (by (with_reducible repeat (first | apply Kd.R_alloc | apply Kd.R_drewN | apply Kd.R_drew)); exact HO523.out) hb)
              have n1_ := Aside0.mk (blk_below (g := gb509) (o := .cells #[.int .i64 t505, .int .i64 t506, .int .i64 t507] 23 (0, 0)) (by (with_reducible repeat (first | refine blk_drewN ?_ _ | refine blk_drew ?_ | refine blk_alloc ?_ _)); exact BK509.out) hb)
              have n2_ := Aside0.mk (blk_below (g := gb514) (o := .cells #[.int .i64 t510, .int .i64 t511, .int .i64 t512] 23 (0, 0)) (by (with_reducible repeat (first | refine blk_drewN ?_ _ | refine blk_drew ?_ | refine blk_alloc ?_ _)); exact BK514.out) hb)
              have n3_ := Aside0.mk (blk_below (g := gb519) (o := .cells #[.int .i64 t515, .int .i64 t516, .int .i64 t517] 23 (0, 0)) (by (with_reducible repeat (first | refine blk_drewN ?_ _ | refine blk_drew ?_ | refine blk_alloc ?_ _)); exact BK519.out) hb)
              have n4_ := Aside0.mk (below_step (by repeat (first | (with_reducible first | exact HB.out | apply below_alloc | apply pw_below_drewN | apply below_drew1 | refine below_set ?_ GE509.out | refine below_set ?_ GE514.out | refine below_set ?_ GE519.out) | exact HB.out)) hb)
              have n5_ := Aside0.mk (hbox)
              have n6_ := Aside0.mk ((by rw [hg]; exact (below_size (by repeat (first | (with_reducible first | exact HB.out | apply below_alloc | apply pw_below_drewN | apply below_drew1 | refine below_set ?_ GE509.out | refine below_set ?_ GE514.out | refine below_set ?_ GE519.out) | exact HB.out))) : w.heap.size ≤ gb530))
              have n7_ := Aside0.mk ((by rw [hg]; exact (below_size (by repeat (first | (with_reducible first | exact HB.out | apply below_alloc | apply pw_below_drewN | apply below_drew1 | refine below_set ?_ GE509.out | refine below_set ?_ GE514.out | refine below_set ?_ GE519.out) | exact HB.out))) : w.heap.size ≤ gb530))
              have n8_ := Aside0.mk ((by rw [hg]; exact Nat.ne_of_lt (blk_lt (g := gb509) (o := .cells #[.int .i64 t505, .int .i64 t506, .int .i64 t507] 23 (0, 0)) (by (with_reducible repeat (first | refine blk_drewN ?_ _ | refine blk_drew ?_ | refine blk_alloc ?_ _)); exact BK509.out)) : gb509 ≠ gb530))
              have n9_ := Aside0.mk ((by rw [hg]; exact Nat.ne_of_gt (blk_lt (g := gb509) (o := .cells #[.int .i64 t505, .int .i64 t506, .int .i64 t507] 23 (0, 0)) (by (with_reducible repeat (first | refine blk_drewN ?_ _ | refine blk_drew ?_ | refine blk_alloc ?_ _)); exact BK509.out)) : gb530 ≠ gb509))
              have n10_ := Aside0.mk ((by rw [hg]; exact Nat.ne_of_lt (blk_lt (g := gb514) (o := .cells #[.int .i64 t510, .int .i64 t511, .int .i64 t512] 23 (0, 0)) (by (with_reducible repeat (first | refine blk_drewN ?_ _ | refine blk_drew ?_ | refine blk_alloc ?_ _)); exact BK514.out)) : gb514 ≠ gb530))
              have n11_ := Aside0.mk ((by rw [hg]; exact Nat.ne_of_gt (blk_lt (g := gb514) (o := .cells #[.int .i64 t510, .int .i64 t511, .int .i64 t512] 23 (0, 0)) (by (with_reducible repeat (first | refine blk_drewN ?_ _ | refine blk_drew ?_ | refine blk_alloc ?_ _)); exact BK514.out)) : gb530 ≠ gb514))
              have n12_ := Aside0.mk ((by rw [hg]; exact Nat.ne_of_lt (blk_lt (g := gb519) (o := .cells #[.int .i64 t515, .int .i64 t516, .int .i64 t517] 23 (0, 0)) (by (with_reducible repeat (first | refine blk_drewN ?_ _ | refine blk_drew ?_ | refine blk_alloc ?_ _)); exact BK519.out)) : gb519 ≠ gb530))
              have n13_ := Aside0.mk ((by rw [hg]; exact Nat.ne_of_gt (blk_lt (g := gb519) (o := .cells #[.int .i64 t515, .int .i64 t516, .int .i64 t517] 23 (0, 0)) (by (with_reducible repeat (first | refine blk_drewN ?_ _ | refine blk_drew ?_ | refine blk_alloc ?_ _)); exact BK519.out)) : gb530 ≠ gb519))
              clear HO523
              clear BK509
              clear BK514
              clear BK519
              clear HB
              have HO523 := n0_
              have BK509 := n1_
              have BK514 := n2_
              have BK519 := n3_
              have HB := n4_
              have BK530 := n5_
              have GW530 := n6_
              have GE530 := n7_
              have NB509_530 := n8_
              have NB530_509 := n9_
              have NB514_530 := n10_
              have NB530_514 := n11_
              have NB519_530 := n12_
              have NB530_519 := n13_
              clear n0_ n1_ n2_ n3_ n4_ n5_ n6_ n7_ n8_ n9_ n10_ n11_ n12_ n13_
              clear hb hbox hg
              refine hK.out _ _ ⟨(blk_cell BK509.out 0).trans rfl, (blk_cell BK509.out 1).trans rfl, (blk_cell BK509.out 2).trans rfl⟩ (fun hHeld => ?_)
              clear hK K
              refine norm_ (a' := ?_) ?_ ?_
              rotate_left
              ·show Act.put _ (some 14) _ = _
               simp only [Act.put, sA, sB, sC, i64_w, i32_w]
               rfl
              exact norm_ (by simp only [putAll, Act.put, List.setIfInBounds_toArray, List.set_cons_zero, List.set_cons_succ]) (hCont (.slice Ao36 y521.length co36, gb530) _ ⟨hHeld, (by (with_reducible repeat (first | apply Kd.R_alloc | apply Kd.R_drewN | apply Kd.R_drew)); exact HO523.out), (by (with_reducible repeat (first | refine blk_drewN ?_ _ | refine blk_drew ?_ | refine blk_alloc ?_ _)); exact BK509.out), (by (with_reducible repeat (first | refine blk_drewN ?_ _ | refine blk_drew ?_ | refine blk_alloc ?_ _)); exact BK514.out), (by (with_reducible repeat (first | refine blk_drewN ?_ _ | refine blk_drew ?_ | refine blk_alloc ?_ _)); exact BK519.out), (by (with_reducible repeat (first | refine blk_drewN ?_ _ | refine blk_drew ?_ | refine blk_alloc ?_ _)); exact BK530.out), GW530.out, GE530.out, NB509_530.out, NB530_509.out, NB514_530.out, NB530_514.out, NB519_530.out, NB530_519.out, (by repeat (first | (with_reducible first | exact HB.out | apply below_alloc | apply pw_below_drewN | apply below_drew1 | refine below_set ?_ GE509.out | refine below_set ?_ GE514.out | refine below_set ?_ GE519.out | refine below_set ?_ GE530.out) | exact HB.out))⟩)
             ·skip
              refine box_step ?hg (N := 14) ?hd (cs := #[.int .i64 0, .int .i64 0, .int .i64 0]) (t := 23) ?hr ?_; (case hd => rfl); (case hg => rfl); (case hr => first | (go_simp; done) | (go_simp; rfl))
              intro gb530 hg w36 hbox hb
              have n0_ := Aside0.mk (Kd.R_below (by (with_reducible repeat (first | apply Kd.R_alloc | apply Kd.R_drewN | apply Kd.R_drew)); exact HO523.out) hb)
              have n1_ := Aside0.mk (blk_below (g := gb509) (o := .cells #[.int .i64 t505, .int .i64 t506, .int .i64 t507] 23 (0, 0)) (by (with_reducible repeat (first | refine blk_drewN ?_ _ | refine blk_drew ?_ | refine blk_alloc ?_ _)); exact BK509.out) hb)
              have n2_ := Aside0.mk (blk_below (g := gb514) (o := .cells #[.int .i64 t510, .int .i64 t511, .int .i64 t512] 23 (0, 0)) (by (with_reducible repeat (first | refine blk_drewN ?_ _ | refine blk_drew ?_ | refine blk_alloc ?_ _)); exact BK514.out) hb)
              have n3_ := Aside0.mk (blk_below (g := gb519) (o := .cells #[.int .i64 t515, .int .i64 t516, .int .i64 t517] 23 (0, 0)) (by (with_reducible repeat (first | refine blk_drewN ?_ _ | refine blk_drew ?_ | refine blk_alloc ?_ _)); exact BK519.out) hb)
              have n4_ := Aside0.mk (below_step (by repeat (first | (with_reducible first | exact HB.out | apply below_alloc | apply pw_below_drewN | apply below_drew1 | refine below_set ?_ GE509.out | refine below_set ?_ GE514.out | refine below_set ?_ GE519.out) | exact HB.out)) hb)
              have n5_ := Aside0.mk (hbox)
              have n6_ := Aside0.mk ((by rw [hg]; exact (below_size (by repeat (first | (with_reducible first | exact HB.out | apply below_alloc | apply pw_below_drewN | apply below_drew1 | refine below_set ?_ GE509.out | refine below_set ?_ GE514.out | refine below_set ?_ GE519.out) | exact HB.out))) : w.heap.size ≤ gb530))
              have n7_ := Aside0.mk ((by rw [hg]; exact (below_size (by repeat (first | (with_reducible first | exact HB.out | apply below_alloc | apply pw_below_drewN | apply below_drew1 | refine below_set ?_ GE509.out | refine below_set ?_ GE514.out | refine below_set ?_ GE519.out) | exact HB.out))) : w.heap.size ≤ gb530))
              have n8_ := Aside0.mk ((by rw [hg]; exact Nat.ne_of_lt (blk_lt (g := gb509) (o := .cells #[.int .i64 t505, .int .i64 t506, .int .i64 t507] 23 (0, 0)) (by (with_reducible repeat (first | refine blk_drewN ?_ _ | refine blk_drew ?_ | refine blk_alloc ?_ _)); exact BK509.out)) : gb509 ≠ gb530))
              have n9_ := Aside0.mk ((by rw [hg]; exact Nat.ne_of_gt (blk_lt (g := gb509) (o := .cells #[.int .i64 t505, .int .i64 t506, .int .i64 t507] 23 (0, 0)) (by (with_reducible repeat (first | refine blk_drewN ?_ _ | refine blk_drew ?_ | refine blk_alloc ?_ _)); exact BK509.out)) : gb530 ≠ gb509))
              have n10_ := Aside0.mk ((by rw [hg]; exact Nat.ne_of_lt (blk_lt (g := gb514) (o := .cells #[.int .i64 t510, .int .i64 t511, .int .i64 t512] 23 (0, 0)) (by (with_reducible repeat (first | refine blk_drewN ?_ _ | refine blk_drew ?_ | refine blk_alloc ?_ _)); exact BK514.out)) : gb514 ≠ gb530))
              have n11_ := Aside0.mk ((by rw [hg]; exact Nat.ne_of_gt (blk_lt (g := gb514) (o := .cells #[.int .i64 t510, .int .i64 t511, .int .i64 t512] 23 (0, 0)) (by (with_reducible repeat (first | refine blk_drewN ?_ _ | refine blk_drew ?_ | refine blk_alloc ?_ _)); exact BK514.out)) : gb530 ≠ gb514))
              have n12_ := Aside0.mk ((by rw [hg]; exact Nat.ne_of_lt (blk_lt (g := gb519) (o := .cells #[.int .i64 t515, .int .i64 t516, .int .i64 t517] 23 (0, 0)) (by (with_reducible repeat (first | refine blk_drewN ?_ _ | refine blk_drew ?_ | refine blk_alloc ?_ _)); exact BK519.out)) : gb519 ≠ gb530))
              have n13_ := Aside0.mk ((by rw [hg]; exact Nat.ne_of_gt (blk_lt (g := gb519) (o := .cells #[.int .i64 t515, .int .i64 t516, .int .i64 t517] 23 (0, 0)) (by (with_reducible repeat (first | refine blk_drewN ?_ _ | refine blk_drew ?_ | refine blk_alloc ?_ _)); exact BK519.out)) : gb530 ≠ gb519))
              clear HO523
              clear BK509
              clear BK514
              clear BK519
              clear HB
              have HO523 := n0_
              have BK509 := n1_
              have BK514 := n2_
              have BK519 := n3_
              have HB := n4_
              have BK530 := n5_
              have GW530 := n6_
              have GE530 := n7_
              have NB509_530 := n8_
              have NB530_509 := n9_
              have NB514_530 := n10_
              have NB530_514 := n11_
              have NB519_530 := n12_
              have NB530_519 := n13_
              clear n0_ n1_ n2_ n3_ n4_ n5_ n6_ n7_ n8_ n9_ n10_ n11_ n12_ n13_
              clear hb hbox hg
              obtain ⟨Ao37, co37, eo37⟩ := Kd.R_slice HO523.out
              (first | subst eo37 | (injection eo37 with f1_ f2_ f3_; have f4_ := f1_.symm; have f5_ := f3_.symm; clear f1_ f2_ f3_; subst f4_; subst f5_))
              refine hK.out _ _ ⟨(blk_cell BK509.out 0).trans rfl, (blk_cell BK509.out 1).trans rfl, (blk_cell BK509.out 2).trans rfl⟩ (fun hHeld => ?_)
              clear hK K
              refine norm_ (a' := ?_) ?_ ?_
              rotate_left
              ·show Act.put _ (some 14) _ = _
               simp only [Act.put, sA, sB, sC, i64_w, i32_w]
               rfl
              refine one_ (i := 4) (N := some 40) #[X,X,X,X,X,Z,Z,Z,Z,Z,X,Z,Z,Z,Z] rfl rfl (one_of HT_.out (by kernel_rfl)) (by decide) (fun K hK => ?_)
              refine goes_ Try.func11 (by kernel_rfl) rfl #[.agg #[.int .i64 t505, .int .i64 t506, .int .i64 t507], .slice Ao37 y521.length co37] (by rfl) rfl rfl (by (try simp only [List.map_toArray, List.map_cons, List.map_nil]); first | done | rfl | (simp only [List.length_drop, List.length_take]; rfl)) ?_
              with_reducible refine (panel_Swing.calls k t505 t506 t507 _ _ y521 t524 t525 t526 t527 t528 t529 _ ?side1 ?side2 A11.out).mono ?_
              (case side1 => repeat (first | exact (Kd.R_reads' HO523.out).2.2 | (with_reducible refine Kd.C_alloc ?_ _) | (with_reducible refine Kd.C_drewN ?_ _) | (with_reducible refine Kd.C_drew ?_)))
              (case side2 => exact (Kd.R_reads' HO523.out).2.1)
              rintro e w38 ⟨rfl, hb⟩
              refine ⟨_, rfl, ?_⟩
              have n0_ := Aside0.mk (Kd.R_below (by (with_reducible repeat (first | apply Kd.R_alloc | apply Kd.R_drewN | apply Kd.R_drew)); exact HO523.out) hb)
              have n1_ := Aside0.mk (blk_below (g := gb509) (o := .cells #[.int .i64 t505, .int .i64 t506, .int .i64 t507] 23 (0, 0)) (by (with_reducible repeat (first | refine blk_drewN ?_ _ | refine blk_drew ?_ | refine blk_alloc ?_ _)); exact BK509.out) hb)
              have n2_ := Aside0.mk (blk_below (g := gb514) (o := .cells #[.int .i64 t510, .int .i64 t511, .int .i64 t512] 23 (0, 0)) (by (with_reducible repeat (first | refine blk_drewN ?_ _ | refine blk_drew ?_ | refine blk_alloc ?_ _)); exact BK514.out) hb)
              have n3_ := Aside0.mk (blk_below (g := gb519) (o := .cells #[.int .i64 t515, .int .i64 t516, .int .i64 t517] 23 (0, 0)) (by (with_reducible repeat (first | refine blk_drewN ?_ _ | refine blk_drew ?_ | refine blk_alloc ?_ _)); exact BK519.out) hb)
              have n4_ := Aside0.mk (blk_below (g := gb530) (o := .cells #[.int .i64 0, .int .i64 0, .int .i64 0] 23 (0, 0)) (by (with_reducible repeat (first | refine blk_drewN ?_ _ | refine blk_drew ?_ | refine blk_alloc ?_ _)); exact BK530.out) hb)
              have n5_ := Aside0.mk (below_step (by repeat (first | (with_reducible first | exact HB.out | apply below_alloc | apply pw_below_drewN | apply below_drew1 | refine below_set ?_ GE509.out | refine below_set ?_ GE514.out | refine below_set ?_ GE519.out | refine below_set ?_ GE530.out) | exact HB.out)) hb)
              clear HO523
              clear BK509
              clear BK514
              clear BK519
              clear BK530
              clear HB
              have HO523 := n0_
              have BK509 := n1_
              have BK514 := n2_
              have BK519 := n3_
              have BK530 := n4_
              have HB := n5_
              clear n0_ n1_ n2_ n3_ n4_ n5_
              (try clear hb)
              (try clear hb2)
              (try clear hk)
              (try clear hi)
              refine hK.out _ _ ⟨(blk_cell BK509.out 0).trans rfl, (blk_cell BK509.out 1).trans rfl, (blk_cell BK509.out 2).trans rfl⟩ (fun hHeld => ?_)
              clear hK K
              refine norm_ (a' := ?_) ?_ ?_
              rotate_left
              ·show Act.put _ (some 40) _ = _
               simp only [Act.put, sA, sB, sC, i64_w, i32_w]
               rfl
              refine pure_ (i := 5) (N := some 35) (v := ?_) (a' := ?_) #[X,X,X,X,X,X,Z,Z,Z,Z,X,Z,Z,Z,Z] rfl rfl (any_of HT_.out (by kernel_rfl)) (fun _ _ _ h => h) (Or.inl ⟨by rfl, ?_⟩) ?_ ?_
              rotate_left
              ·intro w'
               go_simp
               with_reducible rfl
              rotate_left
              ·simp only [Act.put, sA, sB, sC, i64_w, i32_w]
               rfl
              refine pure_ (i := 6) (N := some 41) (v := ?_) (a' := ?_) #[X,X,X,X,X,X,X,Z,Z,Z,X,Z,Z,Z,Z] rfl rfl (any_of HT_.out (by kernel_rfl)) (fun _ _ _ h => h) (Or.inl ⟨by rfl, ?_⟩) ?_ ?_
              rotate_left
              ·intro w'
               go_simp
               with_reducible rfl
              rotate_left
              ·simp only [Act.put, sA, sB, sC, i64_w, i32_w]
               rfl
              refine pure_ (i := 7) (N := some 42) (v := ?_) (a' := ?_) #[X,X,X,X,X,X,X,X,Z,Z,X,Z,Z,Z,Z] rfl rfl (any_of HT_.out (by kernel_rfl)) (fun _ _ _ h => h) (Or.inl ⟨by rfl, ?_⟩) ?_ ?_
              rotate_left
              ·intro w'
               go_simp
               with_reducible rfl
              rotate_left
              ·simp only [Act.put, sA, sB, sC, i64_w, i32_w]
               rfl
              refine pure_ (i := 8) (N := some 43) (v := ?_) (a' := ?_) #[X,X,X,X,X,X,X,X,X,Z,X,Z,Z,Z,Z] rfl rfl (any_of HT_.out (by kernel_rfl)) (fun _ _ _ h => h) (Or.inl ⟨by rfl, ?_⟩) ?_ ?_
              rotate_left
              ·intro w'
               go_simp
               with_reducible rfl
              rotate_left
              ·simp only [Act.put, sA, sB, sC, i64_w, i32_w]
               rfl
              refine pure_ (i := 9) (N := some 44) (v := ?_) (a' := ?_) #[X,X,X,X,X,X,X,X,X,X,X,Z,Z,Z,Z] rfl rfl (any_of HT_.out (by kernel_rfl)) (fun _ _ _ h => h) (Or.inl ⟨by rfl, ?_⟩) ?_ ?_
              rotate_left
              ·intro w'
               go_simp
               with_reducible rfl
              rotate_left
              ·simp only [Act.put, sA, sB, sC, i64_w, i32_w]
               rfl
              exact norm_ (by simp only [putAll, Act.put, List.setIfInBounds_toArray, List.set_cons_zero, List.set_cons_succ]) (hCont (.slice Ao37 y521.length co37, gb530) _ ⟨hHeld, (by (with_reducible repeat (first | apply Kd.R_alloc | apply Kd.R_drewN | apply Kd.R_drew)); exact HO523.out), (by (with_reducible repeat (first | refine blk_drewN ?_ _ | refine blk_drew ?_ | refine blk_alloc ?_ _)); exact BK509.out), (by (with_reducible repeat (first | refine blk_drewN ?_ _ | refine blk_drew ?_ | refine blk_alloc ?_ _)); exact BK514.out), (by (with_reducible repeat (first | refine blk_drewN ?_ _ | refine blk_drew ?_ | refine blk_alloc ?_ _)); exact BK519.out), (by (with_reducible repeat (first | refine blk_drewN ?_ _ | refine blk_drew ?_ | refine blk_alloc ?_ _)); exact BK530.out), GW530.out, GE530.out, NB509_530.out, NB530_509.out, NB514_530.out, NB530_514.out, NB519_530.out, NB530_519.out, (by repeat (first | (with_reducible first | exact HB.out | apply below_alloc | apply pw_below_drewN | apply below_drew1 | refine below_set ?_ GE509.out | refine below_set ?_ GE514.out | refine below_set ?_ GE519.out | refine below_set ?_ GE530.out) | exact HB.out))⟩)
            ·skip
             refine box_step ?hg (N := 14) ?hd (cs := #[.int .i64 0, .int .i64 0, .int .i64 0]) (t := 23) ?hr ?_; (case hd => rfl); (case hg => rfl); (case hr => first | (go_simp; done) | (go_simp; rfl))
             intro gb530 hg w34 hbox hb
             have n0_ := Aside0.mk (blk_below (g := gb509) (o := .cells #[.int .i64 t505, .int .i64 t506, .int .i64 t507] 23 (0, 0)) (by (with_reducible repeat (first | refine blk_drewN ?_ _ | refine blk_drew ?_ | refine blk_alloc ?_ _)); exact BK509.out) hb)
             have n1_ := Aside0.mk (blk_below (g := gb514) (o := .cells #[.int .i64 t510, .int .i64 t511, .int .i64 t512] 23 (0, 0)) (by (with_reducible repeat (first | refine blk_drewN ?_ _ | refine blk_drew ?_ | refine blk_alloc ?_ _)); exact BK514.out) hb)
             have n2_ := Aside0.mk (blk_below (g := gb519) (o := .cells #[.int .i64 t515, .int .i64 t516, .int .i64 t517] 23 (0, 0)) (by (with_reducible repeat (first | refine blk_drewN ?_ _ | refine blk_drew ?_ | refine blk_alloc ?_ _)); exact BK519.out) hb)
             have n3_ := Aside0.mk (below_step (by repeat (first | (with_reducible first | exact HB.out | apply below_alloc | apply pw_below_drewN | apply below_drew1 | refine below_set ?_ GE509.out | refine below_set ?_ GE514.out | refine below_set ?_ GE519.out) | exact HB.out)) hb)
             have n4_ := Aside0.mk (hbox)
             have n5_ := Aside0.mk ((by rw [hg]; exact (below_size (by repeat (first | (with_reducible first | exact HB.out | apply below_alloc | apply pw_below_drewN | apply below_drew1 | refine below_set ?_ GE509.out | refine below_set ?_ GE514.out | refine below_set ?_ GE519.out) | exact HB.out))) : w.heap.size ≤ gb530))
             have n6_ := Aside0.mk ((by rw [hg]; exact (below_size (by repeat (first | (with_reducible first | exact HB.out | apply below_alloc | apply pw_below_drewN | apply below_drew1 | refine below_set ?_ GE509.out | refine below_set ?_ GE514.out | refine below_set ?_ GE519.out) | exact HB.out))) : w.heap.size ≤ gb530))
             have n7_ := Aside0.mk ((by rw [hg]; exact Nat.ne_of_lt (blk_lt (g := gb509) (o := .cells #[.int .i64 t505, .int .i64 t506, .int .i64 t507] 23 (0, 0)) (by (with_reducible repeat (first | refine blk_drewN ?_ _ | refine blk_drew ?_ | refine blk_alloc ?_ _)); exact BK509.out)) : gb509 ≠ gb530))
             have n8_ := Aside0.mk ((by rw [hg]; exact Nat.ne_of_gt (blk_lt (g := gb509) (o := .cells #[.int .i64 t505, .int .i64 t506, .int .i64 t507] 23 (0, 0)) (by (with_reducible repeat (first | refine blk_drewN ?_ _ | refine blk_drew ?_ | refine blk_alloc ?_ _)); exact BK509.out)) : gb530 ≠ gb509))
             have n9_ := Aside0.mk ((by rw [hg]; exact Nat.ne_of_lt (blk_lt (g := gb514) (o := .cells #[.int .i64 t510, .int .i64 t511, .int .i64 t512] 23 (0, 0)) (by (with_reducible repeat (first | refine blk_drewN ?_ _ | refine blk_drew ?_ | refine blk_alloc ?_ _)); exact BK514.out)) : gb514 ≠ gb530))
             have n10_ := Aside0.mk ((by rw [hg]; exact Nat.ne_of_gt (blk_lt (g := gb514) (o := .cells #[.int .i64 t510, .int .i64 t511, .int .i64 t512] 23 (0, 0)) (by (with_reducible repeat (first | refine blk_drewN ?_ _ | refine blk_drew ?_ | refine blk_alloc ?_ _)); exact BK514.out)) : gb530 ≠ gb514))
             have n11_ := Aside0.mk ((by rw [hg]; exact Nat.ne_of_lt (blk_lt (g := gb519) (o := .cells #[.int .i64 t515, .int .i64 t516, .int .i64 t517] 23 (0, 0)) (by (with_reducible repeat (first | refine blk_drewN ?_ _ | refine blk_drew ?_ | refine blk_alloc ?_ _)); exact BK519.out)) : gb519 ≠ gb530))
             have n12_ := Aside0.mk ((by rw [hg]; exact Nat.ne_of_gt (blk_lt (g := gb519) (o := .cells #[.int .i64 t515, .int .i64 t516, .int .i64 t517] 23 (0, 0)) (by (with_reducible repeat (first | refine blk_drewN ?_ _ | refine blk_drew ?_ | refine blk_alloc ?_ _)); exact BK519.out)) : gb530 ≠ gb519))
             clear BK509
             clear BK514
             clear BK519
             clear HB
             have BK509 := n0_
             have BK514 := n1_
             have BK519 := n2_
             have HB := n3_
             have BK530 := n4_
             have GW530 := n5_
             have GE530 := n6_
             have NB509_530 := n7_
             have NB530_509 := n8_
             have NB514_530 := n9_
             have NB530_514 := n10_
             have NB519_530 := n11_
             have NB530_519 := n12_
             clear n0_ n1_ n2_ n3_ n4_ n5_ n6_ n7_ n8_ n9_ n10_ n11_ n12_
             clear hb hbox hg
             refine hK.out _ _ ⟨(blk_cell BK509.out 0).trans rfl, (blk_cell BK509.out 1).trans rfl, (blk_cell BK509.out 2).trans rfl⟩ (fun hHeld => ?_)
             clear hK K
             refine norm_ (a' := ?_) ?_ ?_
             rotate_left
             ·show Act.put _ (some 14) _ = _
              simp only [Act.put, sA, sB, sC, i64_w, i32_w]
              rfl
             refine one_ (i := 3) (N := some 39) #[X,X,X,X,Z,Z,Z,Z,Z,Z,X,Z,Z,Z,Z] rfl rfl (one_of HT_.out (by kernel_rfl)) (by decide) (fun K hK => ?_)
             refine Kd.R_make_step (Kd.int .i64) _ 3 (by rfl) (N := 39) rfl 24 _ _ rfl t520 rfl rfl Try.underlying24 (.int .i64 0) 8 info3 rfl (by decide) (by omega) 0 (ok := fun _ => True) (okp := fun _ => True) rfl (fun _ hk => hk) trivial (of_decide_eq_true (by first | (with_reducible assumption) | assumption)) (Nat.le_trans (Nat.mul_le_mul_right _ (of_decide_eq_true (by first | (with_reducible assumption) | assumption) : t520.toNat ≤ 35184372088832)) (by omega)) (Below.refl _ _) (Nat.le_refl _) ?_
             intro v522 w35 ho36 hb hg_ hnew_
             clear hg_ hnew_
             (first | rw [← Ny521.out] at ho36 | (simp only [Int.reduceToNat] at ho36; rw [← Ny521.out] at ho36))
             have n0_ := Aside0.mk (Kd.R_lower ho36 (below_size (by repeat (first | (with_reducible first | exact HB.out | apply below_alloc | apply pw_below_drewN | apply below_drew1 | refine below_set ?_ GE509.out | refine below_set ?_ GE514.out | refine below_set ?_ GE519.out | refine below_set ?_ GE530.out) | exact HB.out))))
             have n1_ := Aside0.mk (blk_below (g := gb509) (o := .cells #[.int .i64 t505, .int .i64 t506, .int .i64 t507] 23 (0, 0)) (by (with_reducible repeat (first | refine blk_drewN ?_ _ | refine blk_drew ?_ | refine blk_alloc ?_ _)); exact BK509.out) hb)
             have n2_ := Aside0.mk (blk_below (g := gb514) (o := .cells #[.int .i64 t510, .int .i64 t511, .int .i64 t512] 23 (0, 0)) (by (with_reducible repeat (first | refine blk_drewN ?_ _ | refine blk_drew ?_ | refine blk_alloc ?_ _)); exact BK514.out) hb)
             have n3_ := Aside0.mk (blk_below (g := gb519) (o := .cells #[.int .i64 t515, .int .i64 t516, .int .i64 t517] 23 (0, 0)) (by (with_reducible repeat (first | refine blk_drewN ?_ _ | refine blk_drew ?_ | refine blk_alloc ?_ _)); exact BK519.out) hb)
             have n4_ := Aside0.mk (blk_below (g := gb530) (o := .cells #[.int .i64 0, .int .i64 0, .int .i64 0] 23 (0, 0)) (by (with_reducible repeat (first | refine blk_drewN ?_ _ | refine blk_drew ?_ | refine blk_alloc ?_ _)); exact BK530.out) hb)
             have n5_ := Aside0.mk (below_step (by repeat (first | (with_reducible first | exact HB.out | apply below_alloc | apply pw_below_drewN | apply below_drew1 | refine below_set ?_ GE509.out | refine below_set ?_ GE514.out | refine below_set ?_ GE519.out | refine below_set ?_ GE530.out) | exact HB.out)) hb)
             clear BK509
             clear BK514
             clear BK519
             clear BK530
             clear HB
             have HO523 := n0_
             have BK509 := n1_
             have BK514 := n2_
             have BK519 := n3_
             have BK530 := n4_
             have HB := n5_
             clear n0_ n1_ n2_ n3_ n4_ n5_
             clear hb ho36
             obtain ⟨Ao37, co37, eo37⟩ := Kd.R_slice HO523.out
             (first | subst eo37 | (injection eo37 with f1_ f2_ f3_; have f4_ := f1_.symm; have f5_ := f3_.symm; clear f1_ f2_ f3_; subst f4_; subst f5_))
             refine hK.out _ _ ⟨(blk_cell BK509.out 0).trans rfl, (blk_cell BK509.out 1).trans rfl, (blk_cell BK509.out 2).trans rfl⟩ (fun hHeld => ?_)
             clear hK K
             refine norm_ (a' := ?_) ?_ ?_
             rotate_left
             ·show Act.put _ (some 39) _ = _
              simp only [Act.put, sA, sB, sC, i64_w, i32_w]
              rfl
             refine one_ (i := 4) (N := some 40) #[X,X,X,X,X,Z,Z,Z,Z,Z,X,Z,Z,Z,Z] rfl rfl (one_of HT_.out (by kernel_rfl)) (by decide) (fun K hK => ?_)
             refine goes_ Try.func11 (by kernel_rfl) rfl #[.agg #[.int .i64 t505, .int .i64 t506, .int .i64 t507], .slice Ao37 y521.length co37] (by rfl) rfl rfl (by (try simp only [List.map_toArray, List.map_cons, List.map_nil]); first | done | rfl | (simp only [List.length_drop, List.length_take]; rfl)) ?_
             with_reducible refine (panel_Swing.calls k t505 t506 t507 _ _ y521 t524 t525 t526 t527 t528 t529 _ ?side1 ?side2 A11.out).mono ?_
             (case side1 => repeat (first | exact (Kd.R_reads' HO523.out).2.2 | (with_reducible refine Kd.C_alloc ?_ _) | (with_reducible refine Kd.C_drewN ?_ _) | (with_reducible refine Kd.C_drew ?_)))
             (case side2 => exact (Kd.R_reads' HO523.out).2.1)
             rintro e w38 ⟨rfl, hb⟩
             refine ⟨_, rfl, ?_⟩
             have n0_ := Aside0.mk (Kd.R_below (by (with_reducible repeat (first | apply Kd.R_alloc | apply Kd.R_drewN | apply Kd.R_drew)); exact HO523.out) hb)
             have n1_ := Aside0.mk (blk_below (g := gb509) (o := .cells #[.int .i64 t505, .int .i64 t506, .int .i64 t507] 23 (0, 0)) (by (with_reducible repeat (first | refine blk_drewN ?_ _ | refine blk_drew ?_ | refine blk_alloc ?_ _)); exact BK509.out) hb)
             have n2_ := Aside0.mk (blk_below (g := gb514) (o := .cells #[.int .i64 t510, .int .i64 t511, .int .i64 t512] 23 (0, 0)) (by (with_reducible repeat (first | refine blk_drewN ?_ _ | refine blk_drew ?_ | refine blk_alloc ?_ _)); exact BK514.out) hb)
             have n3_ := Aside0.mk (blk_below (g := gb519) (o := .cells #[.int .i64 t515, .int .i64 t516, .int .i64 t517] 23 (0, 0)) (by (with_reducible repeat (first | refine blk_drewN ?_ _ | refine blk_drew ?_ | refine blk_alloc ?_ _)); exact BK519.out) hb)
             have n4_ := Aside0.mk (blk_below (g := gb530) (o := .cells #[.int .i64 0, .int .i64 0, .int .i64 0] 23 (0, 0)) (by (with_reducible repeat (first | refine blk_drewN ?_ _ | refine blk_drew ?_ | refine blk_alloc ?_ _)); exact BK530.out) hb)
             have n5_ := Aside0.mk (below_step (by repeat (first | (with_reducible first | exact HB.out | apply below_alloc | apply pw_below_drewN | apply below_drew1 | refine below_set ?_ GE509.out | refine below_set ?_ GE514.out | refine below_set ?_ GE519.out | refine below_set ?_ GE530.out) | exact HB.out)) hb)
             clear HO523
             clear BK509
             clear BK514
             clear BK519
             clear BK530
             clear HB
             have HO523 := n0_
             have BK509 := n1_
             have BK514 := n2_
             have BK519 := n3_
             have BK530 := n4_
             have HB := n5_
             clear n0_ n1_ n2_ n3_ n4_ n5_
             (try clear hb)
             (try clear hb2)
             (try clear hk)
             (try clear hi)
             refine hK.out _ _ ⟨(blk_cell BK509.out 0).trans rfl, (blk_cell BK509.out 1).trans rfl, (blk_cell BK509.out 2).trans rfl⟩ (fun hHeld => ?_)
             clear hK K
             refine norm_ (a' := ?_) ?_ ?_
             rotate_left
             ·show Act.put _ (some 40) _ = _
              simp only [Act.put, sA, sB, sC, i64_w, i32_w]
              rfl
             refine pure_ (i := 5) (N := some 35) (v := ?_) (a' := ?_) #[X,X,X,X,X,X,Z,Z,Z,Z,X,Z,Z,Z,Z] rfl rfl (any_of HT_.out (by kernel_rfl)) (fun _ _ _ h => h) (Or.inl ⟨by rfl, ?_⟩) ?_ ?_
             rotate_left
             ·intro w'
              go_simp
              with_reducible rfl
             rotate_left
             ·simp only [Act.put, sA, sB, sC, i64_w, i32_w]
              rfl
             refine pure_ (i := 6) (N := some 41) (v := ?_) (a' := ?_) #[X,X,X,X,X,X,X,Z,Z,Z,X,Z,Z,Z,Z] rfl rfl (any_of HT_.out (by kernel_rfl)) (fun _ _ _ h => h) (Or.inl ⟨by rfl, ?_⟩) ?_ ?_
             rotate_left
             ·intro w'
              go_simp
              with_reducible rfl
             rotate_left
             ·simp only [Act.put, sA, sB, sC, i64_w, i32_w]
              rfl
             refine pure_ (i := 7) (N := some 42) (v := ?_) (a' := ?_) #[X,X,X,X,X,X,X,X,Z,Z,X,Z,Z,Z,Z] rfl rfl (any_of HT_.out (by kernel_rfl)) (fun _ _ _ h => h) (Or.inl ⟨by rfl, ?_⟩) ?_ ?_
             rotate_left
             ·intro w'
              go_simp
              with_reducible rfl
             rotate_left
             ·simp only [Act.put, sA, sB, sC, i64_w, i32_w]
              rfl
             refine pure_ (i := 8) (N := some 43) (v := ?_) (a' := ?_) #[X,X,X,X,X,X,X,X,X,Z,X,Z,Z,Z,Z] rfl rfl (any_of HT_.out (by kernel_rfl)) (fun _ _ _ h => h) (Or.inl ⟨by rfl, ?_⟩) ?_ ?_
             rotate_left
             ·intro w'
              go_simp
              with_reducible rfl
             rotate_left
             ·simp only [Act.put, sA, sB, sC, i64_w, i32_w]
              rfl
             refine pure_ (i := 9) (N := some 44) (v := ?_) (a' := ?_) #[X,X,X,X,X,X,X,X,X,X,X,Z,Z,Z,Z] rfl rfl (any_of HT_.out (by kernel_rfl)) (fun _ _ _ h => h) (Or.inl ⟨by rfl, ?_⟩) ?_ ?_
             rotate_left
             ·intro w'
              go_simp
              with_reducible rfl
             rotate_left
             ·simp only [Act.put, sA, sB, sC, i64_w, i32_w]
              rfl
             exact norm_ (by simp only [putAll, Act.put, List.setIfInBounds_toArray, List.set_cons_zero, List.set_cons_succ]) (hCont (.slice Ao37 y521.length co37, gb530) _ ⟨hHeld, (by (with_reducible repeat (first | apply Kd.R_alloc | apply Kd.R_drewN | apply Kd.R_drew)); exact HO523.out), (by (with_reducible repeat (first | refine blk_drewN ?_ _ | refine blk_drew ?_ | refine blk_alloc ?_ _)); exact BK509.out), (by (with_reducible repeat (first | refine blk_drewN ?_ _ | refine blk_drew ?_ | refine blk_alloc ?_ _)); exact BK514.out), (by (with_reducible repeat (first | refine blk_drewN ?_ _ | refine blk_drew ?_ | refine blk_alloc ?_ _)); exact BK519.out), (by (with_reducible repeat (first | refine blk_drewN ?_ _ | refine blk_drew ?_ | refine blk_alloc ?_ _)); exact BK530.out), GW530.out, GE530.out, NB509_530.out, NB530_509.out, NB514_530.out, NB530_514.out, NB519_530.out, NB530_519.out, (by repeat (first | (with_reducible first | exact HB.out | apply below_alloc | apply pw_below_drewN | apply below_drew1 | refine below_set ?_ GE509.out | refine below_set ?_ GE514.out | refine below_set ?_ GE519.out | refine below_set ?_ GE530.out) | exact HB.out))⟩)
           ·skip
            refine box_step ?hg (N := 14) ?hd (cs := #[.int .i64 0, .int .i64 0, .int .i64 0]) (t := 23) ?hr ?_; (case hd => rfl); (case hg => rfl); (case hr => first | (go_simp; done) | (go_simp; rfl))
            intro gb530 hg w34 hbox hb
            have n0_ := Aside0.mk (blk_below (g := gb509) (o := .cells #[.int .i64 t505, .int .i64 t506, .int .i64 t507] 23 (0, 0)) (by (with_reducible repeat (first | refine blk_drewN ?_ _ | refine blk_drew ?_ | refine blk_alloc ?_ _)); exact BK509.out) hb)
            have n1_ := Aside0.mk (blk_below (g := gb514) (o := .cells #[.int .i64 t510, .int .i64 t511, .int .i64 t512] 23 (0, 0)) (by (with_reducible repeat (first | refine blk_drewN ?_ _ | refine blk_drew ?_ | refine blk_alloc ?_ _)); exact BK514.out) hb)
            have n2_ := Aside0.mk (blk_below (g := gb519) (o := .cells #[.int .i64 t515, .int .i64 t516, .int .i64 t517] 23 (0, 0)) (by (with_reducible repeat (first | refine blk_drewN ?_ _ | refine blk_drew ?_ | refine blk_alloc ?_ _)); exact BK519.out) hb)
            have n3_ := Aside0.mk (below_step (by repeat (first | (with_reducible first | exact HB.out | apply below_alloc | apply pw_below_drewN | apply below_drew1 | refine below_set ?_ GE509.out | refine below_set ?_ GE514.out | refine below_set ?_ GE519.out) | exact HB.out)) hb)
            have n4_ := Aside0.mk (hbox)
            have n5_ := Aside0.mk ((by rw [hg]; exact (below_size (by repeat (first | (with_reducible first | exact HB.out | apply below_alloc | apply pw_below_drewN | apply below_drew1 | refine below_set ?_ GE509.out | refine below_set ?_ GE514.out | refine below_set ?_ GE519.out) | exact HB.out))) : w.heap.size ≤ gb530))
            have n6_ := Aside0.mk ((by rw [hg]; exact (below_size (by repeat (first | (with_reducible first | exact HB.out | apply below_alloc | apply pw_below_drewN | apply below_drew1 | refine below_set ?_ GE509.out | refine below_set ?_ GE514.out | refine below_set ?_ GE519.out) | exact HB.out))) : w.heap.size ≤ gb530))
            have n7_ := Aside0.mk ((by rw [hg]; exact Nat.ne_of_lt (blk_lt (g := gb509) (o := .cells #[.int .i64 t505, .int .i64 t506, .int .i64 t507] 23 (0, 0)) (by (with_reducible repeat (first | refine blk_drewN ?_ _ | refine blk_drew ?_ | refine blk_alloc ?_ _)); exact BK509.out)) : gb509 ≠ gb530))
            have n8_ := Aside0.mk ((by rw [hg]; exact Nat.ne_of_gt (blk_lt (g := gb509) (o := .cells #[.int .i64 t505, .int .i64 t506, .int .i64 t507] 23 (0, 0)) (by (with_reducible repeat (first | refine blk_drewN ?_ _ | refine blk_drew ?_ | refine blk_alloc ?_ _)); exact BK509.out)) : gb530 ≠ gb509))
            have n9_ := Aside0.mk ((by rw [hg]; exact Nat.ne_of_lt (blk_lt (g := gb514) (o := .cells #[.int .i64 t510, .int .i64 t511, .int .i64 t512] 23 (0, 0)) (by (with_reducible repeat (first | refine blk_drewN ?_ _ | refine blk_drew ?_ | refine blk_alloc ?_ _)); exact BK514.out)) : gb514 ≠ gb530))
            have n10_ := Aside0.mk ((by rw [hg]; exact Nat.ne_of_gt (blk_lt (g := gb514) (o := .cells #[.int .i64 t510, .int .i64 t511, .int .i64 t512] 23 (0, 0)) (by (with_reducible repeat (first | refine blk_drewN ?_ _ | refine blk_drew ?_ | refine blk_alloc ?_ _)); exact BK514.out)) : gb530 ≠ gb514))
            have n11_ := Aside0.mk ((by rw [hg]; exact Nat.ne_of_lt (blk_lt (g := gb519) (o := .cells #[.int .i64 t515, .int .i64 t516, .int .i64 t517] 23 (0, 0)) (by (with_reducible repeat (first | refine blk_drewN ?_ _ | refine blk_drew ?_ | refine blk_alloc ?_ _)); exact BK519.out)) : gb519 ≠ gb530))
            have n12_ := Aside0.mk ((by rw [hg]; exact Nat.ne_of_gt (blk_lt (g := gb519) (o := .cells #[.int .i64 t515, .int .i64 t516, .int .i64 t517] 23 (0, 0)) (by (with_reducible repeat (first | refine blk_drewN ?_ _ | refine blk_drew ?_ | refine blk_alloc ?_ _)); exact BK519.out)) : gb530 ≠ gb519))
            clear BK509
            clear BK514
            clear BK519
            clear HB
            have BK509 := n0_
            have BK514 := n1_
            have BK519 := n2_
            have HB := n3_
            have BK530 := n4_
            have GW530 := n5_
            have GE530 := n6_
            have NB509_530 := n7_
            have NB530_509 := n8_
            have NB514_530 := n9_
            have NB530_514 := n10_
            have NB519_530 := n11_
            have NB530_519 := n12_
            clear n0_ n1_ n2_ n3_ n4_ n5_ n6_ n7_ n8_ n9_ n10_ n11_ n12_
            clear hb hbox hg
            refine hK.out _ _ ⟨(blk_cell BK509.out 0).trans rfl, (blk_cell BK509.out 1).trans rfl, (blk_cell BK509.out 2).trans rfl⟩ (fun hHeld => ?_)
            clear hK K
            refine norm_ (a' := ?_) ?_ ?_
            rotate_left
            ·show Act.put _ (some 14) _ = _
             simp only [Act.put, sA, sB, sC, i64_w, i32_w]
             rfl
            refine one_ (i := 2) (N := some 38) #[X,X,X,Z,Z,Z,Z,Z,Z,Z,X,Z,Z,Z,Z] rfl rfl (one_of HT_.out (by kernel_rfl)) (by decide) (fun K hK => ?_)
            refine goes_ Try.func26 (by kernel_rfl) rfl #[.int .i64 a2, .int .i64 60] (by rfl) rfl rfl (by (try simp only [List.map_toArray, List.map_cons, List.map_nil]); first | done | rfl | (simp only [List.length_drop, List.length_take]; rfl)) ?_
            with_reducible refine (tipstaffkit_Mod.calls a2 60 t520 _ A8.out).mono ?_
            rintro e w' ⟨rfl, ⟨nd, rfl⟩⟩
            refine ⟨_, rfl, ?_⟩
            refine hK.out _ _ ⟨(blk_cell BK509.out 0).trans rfl, (blk_cell BK509.out 1).trans rfl, (blk_cell BK509.out 2).trans rfl⟩ (fun hHeld => ?_)
            clear hK K
            refine norm_ (a' := ?_) ?_ ?_
            rotate_left
            ·show Act.put _ (some 38) _ = _
             simp only [Act.put, sA, sB, sC, i64_w, i32_w]
             rfl
            refine one_ (i := 3) (N := some 39) #[X,X,X,X,Z,Z,Z,Z,Z,Z,X,Z,Z,Z,Z] rfl rfl (one_of HT_.out (by kernel_rfl)) (by decide) (fun K hK => ?_)
            refine Kd.R_make_step (Kd.int .i64) _ 3 (by rfl) (N := 39) rfl 24 _ _ rfl t520 rfl rfl Try.underlying24 (.int .i64 0) 8 info3 rfl (by decide) (by omega) 0 (ok := fun _ => True) (okp := fun _ => True) rfl (fun _ hk => hk) trivial (of_decide_eq_true (by first | (with_reducible assumption) | assumption)) (Nat.le_trans (Nat.mul_le_mul_right _ (of_decide_eq_true (by first | (with_reducible assumption) | assumption) : t520.toNat ≤ 35184372088832)) (by omega)) (Below.refl _ _) (Nat.le_refl _) ?_
            intro v522 w35 ho36 hb hg_ hnew_
            clear hg_ hnew_
            (first | rw [← Ny521.out] at ho36 | (simp only [Int.reduceToNat] at ho36; rw [← Ny521.out] at ho36))
            have n0_ := Aside0.mk (Kd.R_lower ho36 (below_size (by repeat (first | (with_reducible first | exact HB.out | apply below_alloc | apply pw_below_drewN | apply below_drew1 | refine below_set ?_ GE509.out | refine below_set ?_ GE514.out | refine below_set ?_ GE519.out | refine below_set ?_ GE530.out) | exact HB.out))))
            have n1_ := Aside0.mk (blk_below (g := gb509) (o := .cells #[.int .i64 t505, .int .i64 t506, .int .i64 t507] 23 (0, 0)) (by (with_reducible repeat (first | refine blk_drewN ?_ _ | refine blk_drew ?_ | refine blk_alloc ?_ _)); exact BK509.out) hb)
            have n2_ := Aside0.mk (blk_below (g := gb514) (o := .cells #[.int .i64 t510, .int .i64 t511, .int .i64 t512] 23 (0, 0)) (by (with_reducible repeat (first | refine blk_drewN ?_ _ | refine blk_drew ?_ | refine blk_alloc ?_ _)); exact BK514.out) hb)
            have n3_ := Aside0.mk (blk_below (g := gb519) (o := .cells #[.int .i64 t515, .int .i64 t516, .int .i64 t517] 23 (0, 0)) (by (with_reducible repeat (first | refine blk_drewN ?_ _ | refine blk_drew ?_ | refine blk_alloc ?_ _)); exact BK519.out) hb)
            have n4_ := Aside0.mk (blk_below (g := gb530) (o := .cells #[.int .i64 0, .int .i64 0, .int .i64 0] 23 (0, 0)) (by (with_reducible repeat (first | refine blk_drewN ?_ _ | refine blk_drew ?_ | refine blk_alloc ?_ _)); exact BK530.out) hb)
            have n5_ := Aside0.mk (below_step (by repeat (first | (with_reducible first | exact HB.out | apply below_alloc | apply pw_below_drewN | apply below_drew1 | refine below_set ?_ GE509.out | refine below_set ?_ GE514.out | refine below_set ?_ GE519.out | refine below_set ?_ GE530.out) | exact HB.out)) hb)
            clear BK509
            clear BK514
            clear BK519
            clear BK530
            clear HB
            have HO523 := n0_
            have BK509 := n1_
            have BK514 := n2_
            have BK519 := n3_
            have BK530 := n4_
            have HB := n5_
            clear n0_ n1_ n2_ n3_ n4_ n5_
            clear hb ho36
            obtain ⟨Ao37, co37, eo37⟩ := Kd.R_slice HO523.out
            (first | subst eo37 | (injection eo37 with f1_ f2_ f3_; have f4_ := f1_.symm; have f5_ := f3_.symm; clear f1_ f2_ f3_; subst f4_; subst f5_))
            refine hK.out _ _ ⟨(blk_cell BK509.out 0).trans rfl, (blk_cell BK509.out 1).trans rfl, (blk_cell BK509.out 2).trans rfl⟩ (fun hHeld => ?_)
            clear hK K
            refine norm_ (a' := ?_) ?_ ?_
            rotate_left
            ·show Act.put _ (some 39) _ = _
             simp only [Act.put, sA, sB, sC, i64_w, i32_w]
             rfl
            refine one_ (i := 4) (N := some 40) #[X,X,X,X,X,Z,Z,Z,Z,Z,X,Z,Z,Z,Z] rfl rfl (one_of HT_.out (by kernel_rfl)) (by decide) (fun K hK => ?_)
            refine goes_ Try.func11 (by kernel_rfl) rfl #[.agg #[.int .i64 t505, .int .i64 t506, .int .i64 t507], .slice Ao37 y521.length co37] (by rfl) rfl rfl (by (try simp only [List.map_toArray, List.map_cons, List.map_nil]); first | done | rfl | (simp only [List.length_drop, List.length_take]; rfl)) ?_
            with_reducible refine (panel_Swing.calls k t505 t506 t507 _ _ y521 t524 t525 t526 t527 t528 t529 _ ?side1 ?side2 A11.out).mono ?_
            (case side1 => repeat (first | exact (Kd.R_reads' HO523.out).2.2 | (with_reducible refine Kd.C_alloc ?_ _) | (with_reducible refine Kd.C_drewN ?_ _) | (with_reducible refine Kd.C_drew ?_)))
            (case side2 => exact (Kd.R_reads' HO523.out).2.1)
            rintro e w38 ⟨rfl, hb⟩
            refine ⟨_, rfl, ?_⟩
            have n0_ := Aside0.mk (Kd.R_below (by (with_reducible repeat (first | apply Kd.R_alloc | apply Kd.R_drewN | apply Kd.R_drew)); exact HO523.out) hb)
            have n1_ := Aside0.mk (blk_below (g := gb509) (o := .cells #[.int .i64 t505, .int .i64 t506, .int .i64 t507] 23 (0, 0)) (by (with_reducible repeat (first | refine blk_drewN ?_ _ | refine blk_drew ?_ | refine blk_alloc ?_ _)); exact BK509.out) hb)
            have n2_ := Aside0.mk (blk_below (g := gb514) (o := .cells #[.int .i64 t510, .int .i64 t511, .int .i64 t512] 23 (0, 0)) (by (with_reducible repeat (first | refine blk_drewN ?_ _ | refine blk_drew ?_ | refine blk_alloc ?_ _)); exact BK514.out) hb)
            have n3_ := Aside0.mk (blk_below (g := gb519) (o := .cells #[.int .i64 t515, .int .i64 t516, .int .i64 t517] 23 (0, 0)) (by (with_reducible repeat (first | refine blk_drewN ?_ _ | refine blk_drew ?_ | refine blk_alloc ?_ _)); exact BK519.out) hb)
            have n4_ := Aside0.mk (blk_below (g := gb530) (o := .cells #[.int .i64 0, .int .i64 0, .int .i64 0] 23 (0, 0)) (by (with_reducible repeat (first | refine blk_drewN ?_ _ | refine blk_drew ?_ | refine blk_alloc ?_ _)); exact BK530.out) hb)
            have n5_ := Aside0.mk (below_step (by repeat (first | (with_reducible first | exact HB.out | apply below_alloc | apply pw_below_drewN | apply below_drew1 | refine below_set ?_ GE509.out | refine below_set ?_ GE514.out | refine below_set ?_ GE519.out | refine below_set ?_ GE530.out) | exact HB.out)) hb)
            clear HO523
            clear BK509
            clear BK514
            clear BK519
            clear BK530
            clear HB
            have HO523 := n0_
            have BK509 := n1_
            have BK514 := n2_
            have BK519 := n3_
            have BK530 := n4_
            have HB := n5_
            clear n0_ n1_ n2_ n3_ n4_ n5_
            (try clear hb)
            (try clear hb2)
            (try clear hk)
            (try clear hi)
            refine hK.out _ _ ⟨(blk_cell BK509.out 0).trans rfl, (blk_cell BK509.out 1).trans rfl, (blk_cell BK509.out 2).trans rfl⟩ (fun hHeld => ?_)
            clear hK K
            refine norm_ (a' := ?_) ?_ ?_
            rotate_left
            ·show Act.put _ (some 40) _ = _
             simp only [Act.put, sA, sB, sC, i64_w, i32_w]
             rfl
            refine pure_ (i := 5) (N := some 35) (v := ?_) (a' := ?_) #[X,X,X,X,X,X,Z,Z,Z,Z,X,Z,Z,Z,Z] rfl rfl (any_of HT_.out (by kernel_rfl)) (fun _ _ _ h => h) (Or.inl ⟨by rfl, ?_⟩) ?_ ?_
            rotate_left
            ·intro w'
             go_simp
             with_reducible rfl
            rotate_left
            ·simp only [Act.put, sA, sB, sC, i64_w, i32_w]
             rfl
            refine pure_ (i := 6) (N := some 41) (v := ?_) (a' := ?_) #[X,X,X,X,X,X,X,Z,Z,Z,X,Z,Z,Z,Z] rfl rfl (any_of HT_.out (by kernel_rfl)) (fun _ _ _ h => h) (Or.inl ⟨by rfl, ?_⟩) ?_ ?_
            rotate_left
            ·intro w'
             go_simp
             with_reducible rfl
            rotate_left
            ·simp only [Act.put, sA, sB, sC, i64_w, i32_w]
             rfl
            refine pure_ (i := 7) (N := some 42) (v := ?_) (a' := ?_) #[X,X,X,X,X,X,X,X,Z,Z,X,Z,Z,Z,Z] rfl rfl (any_of HT_.out (by kernel_rfl)) (fun _ _ _ h => h) (Or.inl ⟨by rfl, ?_⟩) ?_ ?_
            rotate_left
            ·intro w'
             go_simp
             with_reducible rfl
            rotate_left
            ·simp only [Act.put, sA, sB, sC, i64_w, i32_w]
             rfl
            refine pure_ (i := 8) (N := some 43) (v := ?_) (a' := ?_) #[X,X,X,X,X,X,X,X,X,Z,X,Z,Z,Z,Z] rfl rfl (any_of HT_.out (by kernel_rfl)) (fun _ _ _ h => h) (Or.inl ⟨by rfl, ?_⟩) ?_ ?_
            rotate_left
            ·intro w'
             go_simp
             with_reducible rfl
            rotate_left
            ·simp only [Act.put, sA, sB, sC, i64_w, i32_w]
             rfl
            refine pure_ (i := 9) (N := some 44) (v := ?_) (a' := ?_) #[X,X,X,X,X,X,X,X,X,X,X,Z,Z,Z,Z] rfl rfl (any_of HT_.out (by kernel_rfl)) (fun _ _ _ h => h) (Or.inl ⟨by rfl, ?_⟩) ?_ ?_
            rotate_left
            ·intro w'
             go_simp
             with_reducible rfl
            rotate_left
            ·simp only [Act.put, sA, sB, sC, i64_w, i32_w]
             rfl
            exact norm_ (by simp only [putAll, Act.put, List.setIfInBounds_toArray, List.set_cons_zero, List.set_cons_succ]) (hCont (.slice Ao37 y521.length co37, gb530) _ ⟨hHeld, (by (with_reducible repeat (first | apply Kd.R_alloc | apply Kd.R_drewN | apply Kd.R_drew)); exact HO523.out), (by (with_reducible repeat (first | refine blk_drewN ?_ _ | refine blk_drew ?_ | refine blk_alloc ?_ _)); exact BK509.out), (by (with_reducible repeat (first | refine blk_drewN ?_ _ | refine blk_drew ?_ | refine blk_alloc ?_ _)); exact BK514.out), (by (with_reducible repeat (first | refine blk_drewN ?_ _ | refine blk_drew ?_ | refine blk_alloc ?_ _)); exact BK519.out), (by (with_reducible repeat (first | refine blk_drewN ?_ _ | refine blk_drew ?_ | refine blk_alloc ?_ _)); exact BK530.out), GW530.out, GE530.out, NB509_530.out, NB530_509.out, NB514_530.out, NB530_514.out, NB519_530.out, NB530_519.out, (by repeat (first | (with_reducible first | exact HB.out | apply below_alloc | apply pw_below_drewN | apply below_drew1 | refine below_set ?_ GE509.out | refine below_set ?_ GE514.out | refine below_set ?_ GE519.out | refine below_set ?_ GE530.out) | exact HB.out))⟩)
          rintro ⟨v522, gb530⟩ w39 ⟨hS_, h0_, h1_, h2_, h3_, h4_, h5_, h6_, h7_, h8_, h9_, h10_, h11_, h12_, h13_⟩
          have n0_ : Aside0 (Kd.R (Kd.int .i64) 3 w39 w.heap.size (fun _ => True) v522 y521) := ⟨h0_⟩
          have n1_ : Aside0 (w39.heap[gb509]? = some (.cells #[.int .i64 t505, .int .i64 t506, .int .i64 t507] 23 (0, 0))) := ⟨h1_⟩
          have n2_ : Aside0 (w39.heap[gb514]? = some (.cells #[.int .i64 t510, .int .i64 t511, .int .i64 t512] 23 (0, 0))) := ⟨h2_⟩
          have n3_ : Aside0 (w39.heap[gb519]? = some (.cells #[.int .i64 t515, .int .i64 t516, .int .i64 t517] 23 (0, 0))) := ⟨h3_⟩
          have n4_ : Aside0 (w39.heap[gb530]? = some (.cells #[.int .i64 0, .int .i64 0, .int .i64 0] 23 (0, 0))) := ⟨h4_⟩
          have n5_ : Aside0 (w.heap.size ≤ gb530) := ⟨h5_⟩
          have n6_ : Aside0 (w.heap.size ≤ gb530) := ⟨h6_⟩
          have n7_ : Aside0 (gb509 ≠ gb530) := ⟨h7_⟩
          have n8_ : Aside0 (gb530 ≠ gb509) := ⟨h8_⟩
          have n9_ : Aside0 (gb514 ≠ gb530) := ⟨h9_⟩
          have n10_ : Aside0 (gb530 ≠ gb514) := ⟨h10_⟩
          have n11_ : Aside0 (gb519 ≠ gb530) := ⟨h11_⟩
          have n12_ : Aside0 (gb530 ≠ gb519) := ⟨h12_⟩
          have n13_ : Aside0 (Below w.heap.size w w39) := ⟨h13_⟩
          clear BK509
          clear BK514
          clear BK519
          clear HB
          clear h0_ h1_ h2_ h3_ h4_ h5_ h6_ h7_ h8_ h9_ h10_ h11_ h12_ h13_
          have HO523 := n0_
          have BK509 := n1_
          have BK514 := n2_
          have BK519 := n3_
          have BK530 := n4_
          have GW530 := n5_
          have GE530 := n6_
          have NB509_530 := n7_
          have NB530_509 := n8_
          have NB514_530 := n9_
          have NB530_514 := n10_
          have NB519_530 := n11_
          have NB530_519 := n12_
          have HB := n13_
          clear n0_ n1_ n2_ n3_ n4_ n5_ n6_ n7_ n8_ n9_ n10_ n11_ n12_ n13_
          have hHeld : w39.cell? ⟨gb509, 0, none⟩ = some (.int .i64 t505) ∧ w39.cell? ⟨gb509, 1, none⟩ = some (.int .i64 t506) ∧ w39.cell? ⟨gb509, 2, none⟩ = some (.int .i64 t507) := hS_
          refine norm_ (a' := ?_) ?_ ?_
          rotate_left
          ·simp only [putAll, Act.put, List.setIfInBounds_toArray, List.set_cons_zero, List.set_cons_succ]
           rfl
          refine one_ (i := 11) (N := none) #[X,X,X,X,X,X,X,X,X,X,X,X,Z,Z,Z] rfl rfl (one_of HT_.out (by kernel_rfl)) (by decide) (fun K hK => ?_)
          have hs40 : w39.cell? ⟨gb530, 0, none⟩ = some (.int .i64 0) := (blk_cell BK530.out 0).trans rfl
          have hfs40 := blk_frozen BK530.out 0
          have hns40_0 := NB509_530.out
          have hns40_1 := NB514_530.out
          have hns40_2 := NB519_530.out
          have hms40_0 := NB530_509.out
          have hms40_1 := NB530_514.out
          have hms40_2 := NB530_519.out
          have hs41 : w39.cell? ⟨gb530, 1, none⟩ = some (.int .i64 0) := (blk_cell BK530.out 1).trans rfl
          have hfs41 := blk_frozen BK530.out 1
          have hns41_0 := NB509_530.out
          have hns41_1 := NB514_530.out
          have hns41_2 := NB519_530.out
          have hms41_0 := NB530_509.out
          have hms41_1 := NB530_514.out
          have hms41_2 := NB530_519.out
          have hs42 : w39.cell? ⟨gb530, 2, none⟩ = some (.int .i64 0) := (blk_cell BK530.out 2).trans rfl
          have hfs42 := blk_frozen BK530.out 2
          have hns42_0 := NB509_530.out
          have hns42_1 := NB514_530.out
          have hns42_2 := NB519_530.out
          have hms42_0 := NB530_509.out
          have hms42_1 := NB530_514.out
          have hms42_2 := NB530_519.out
          refine skip_ (w1 := ?_) (by rfl) rfl ?_ ?_
          rotate_left
          ·go_simp
           rfl
          refine hK.out _ _ ⟨((cell_far (p := ⟨gb530, _, none⟩) NB509_530.out _).trans (((cell_far (p := ⟨gb530, _, none⟩) NB509_530.out _).trans (((cell_far (p := ⟨gb530, _, none⟩) NB509_530.out _).trans (hHeld.1)))))), ((cell_far (p := ⟨gb530, _, none⟩) NB509_530.out _).trans (((cell_far (p := ⟨gb530, _, none⟩) NB509_530.out _).trans (((cell_far (p := ⟨gb530, _, none⟩) NB509_530.out _).trans (hHeld.2.1)))))), ((cell_far (p := ⟨gb530, _, none⟩) NB509_530.out _).trans (((cell_far (p := ⟨gb530, _, none⟩) NB509_530.out _).trans (((cell_far (p := ⟨gb530, _, none⟩) NB509_530.out _).trans (hHeld.2.2))))))⟩ (fun hHeld => ?_)
          clear hK K
          refine pure_ (i := 12) (N := some 15) (v := ?_) (a' := ?_) #[X,X,X,X,X,X,X,X,X,X,X,X,X,Z,Z] rfl rfl (any_of HT_.out (by kernel_rfl)) (fun _ _ _ h => h) (Or.inl ⟨by rfl, ?_⟩) ?_ ?_
          rotate_left
          ·intro w'
           go_simp
           with_reducible rfl
          rotate_left
          ·simp only [Act.put, sA, sB, sC, i64_w, i32_w]
           rfl
          refine pure_ (i := 13) (N := some 16) (v := ?_) (a' := ?_) #[X,X,X,X,X,X,X,X,X,X,X,X,X,X,Z] rfl rfl (any_of HT_.out (by kernel_rfl)) (fun _ _ _ h => h) (Or.inl ⟨by rfl, ?_⟩) ?_ ?_
          rotate_left
          ·intro w'
           go_simp
           with_reducible rfl
          rotate_left
          ·simp only [Act.put, sA, sB, sC, i64_w, i32_w]
           rfl
          refine pure_ (i := 14) (N := some 17) (v := ?_) (a' := ?_) #[X,X,X,X,X,X,X,X,X,X,X,X,X,X,X] rfl rfl (any_of HT_.out (by kernel_rfl)) (fun _ _ _ h => h) (Or.inl ⟨by rfl, ?_⟩) ?_ ?_
          rotate_left
          ·intro w'
           go_simp
           with_reducible rfl
          rotate_left
          ·simp only [Act.put, sA, sB, sC, i64_w, i32_w]
           rfl
          refine done_ (done_of HT_.out (by kernel_rfl)) ?_
          have hnb43 := NB519_530.out
          have hnc43 := NB530_519.out
          have hcz44_0 : w39.cell? ⟨gb519, 0, none⟩ = some (.int .i64 t515) := (blk_cell BK519.out 0).trans rfl
          have hcz44_1 : w39.cell? ⟨gb519, 1, none⟩ = some (.int .i64 t516) := (blk_cell BK519.out 1).trans rfl
          have hcz44_2 : w39.cell? ⟨gb519, 2, none⟩ = some (.int .i64 t517) := (blk_cell BK519.out 2).trans rfl
          have hfz44_0 := blk_frozen BK519.out 0
          have hfz44_1 := blk_frozen BK519.out 1
          have hfz44_2 := blk_frozen BK519.out 2
          have hnb45 := NB509_530.out
          have hnc45 := NB530_509.out
          have hcz46_0 : w39.cell? ⟨gb509, 0, none⟩ = some (.int .i64 t505) := (blk_cell BK509.out 0).trans rfl
          have hcz46_1 : w39.cell? ⟨gb509, 1, none⟩ = some (.int .i64 t506) := (blk_cell BK509.out 1).trans rfl
          have hcz46_2 : w39.cell? ⟨gb509, 2, none⟩ = some (.int .i64 t507) := (blk_cell BK509.out 2).trans rfl
          have hfz46_0 := blk_frozen BK509.out 0
          have hfz46_1 := blk_frozen BK509.out 1
          have hfz46_2 := blk_frozen BK509.out 2
          try go_wp2
          go_ret
          exact ⟨by first | rfl | (simp [errW_none, errW_some] <;> rfl) | (simp [*, errW_none, errW_some] <;> rfl) | (simp (discharger := omega) only [Int.tdiv_eq_ediv_of_nonneg, Int.tmod_eq_emod_of_nonneg] <;> rfl), by repeat (first | (with_reducible first | exact HB.out | apply below_alloc | apply pw_below_drewN | apply below_drew1 | refine below_set ?_ GE509.out | refine below_set ?_ GE514.out | refine below_set ?_ GE519.out | refine below_set ?_ GE530.out) | exact HB.out)⟩
         ·rw [if_neg c18] at H
          have c18b0 : (t515 == t505 && (t516 == t506 && (t517 == t507))) = false := by simpa using c18
          (try (have c18b1 : decide (t515 = t505 && (t516 == t506 && (t517 == t507))) = false := by simpa using c18))
          (try (have c18b2 : (t515 == t505 && (t516 == t506 && (t517 == t507))) = false := by simpa using c18))
          (try (have c18b3 : ¬ (t515 = t505 && (t516 == t506 && (t517 == t507))) := by simpa using c18))
          clear c18
          by_cases c47 : t505 = 0
          ·rw [if_pos c47] at H
           have c47b0 : (t505 == 0) = true := beq_iff_eq.mpr c47
           have c47b1 : (t505 != 0) = false := bne_eq_false_iff_eq.mpr c47
           clear c47
           by_cases c48 : t517 = 0
           ·rw [if_pos c48] at H
            have c48b0 : (t517 == 0) = true := beq_iff_eq.mpr c48
            have c48b1 : (t517 != 0) = false := bne_eq_false_iff_eq.mpr c48
            clear c48
            obtain rfl := Option.some.inj H
            go_enter Try.func7, Try.ntmps7
            try go_wp2_with (first | ((with_reducible refine gate_callee (f := 4) rfl ?_); refine goesL_ (some 18) rfl rfl Try.func4 (by kernel_rfl) rfl #[] rfl (by (try simp only [List.map_toArray, List.map_cons, List.map_nil]); first | done | rfl | (simp only [List.length_drop, List.length_take]; rfl)) ?_; (with_reducible refine (tipstafflaw16_PanelKnown.calls k  true _ A4.out).mono ?_); rintro e w49 ⟨rfl, hb⟩; refine ⟨_, rfl, ?_⟩; have n0_ := Aside0.mk (below_step (by repeat (first | (with_reducible first | exact HB.out | apply below_alloc | apply pw_below_drewN | apply below_drew1) | exact HB.out)) hb); clear HB; have HB := n0_; clear n0_; (try clear hb); (try clear hb2); (try clear hk); (try clear hi)) | ((with_reducible refine gate_callee (f := 25) rfl ?_); refine goesL_ (some 22) rfl rfl Try.func25 (by kernel_rfl) rfl #[.int .i64 a0, .slice A1 l1.length c1] rfl (by (try simp only [List.map_toArray, List.map_cons, List.map_nil]); first | done | rfl | (simp only [List.length_drop, List.length_take]; rfl)) ?_; (with_reducible refine (tipstafflaw16_made.calls k a0 _ _ l1 t505 t506 t507 true _ ?side1 ?side2 A5.out).mono ?_); (case side1 => repeat (first | exact (Kd.C_below HR1.out HB.out) | (with_reducible refine Kd.C_alloc ?_ _) | (with_reducible refine Kd.C_drewN ?_ _) | (with_reducible refine Kd.C_drew ?_))); (case side2 => exact HC1.out); rintro e w50 ⟨rfl, hb⟩; refine ⟨_, rfl, ?_⟩; have n0_ := Aside0.mk (below_step (by repeat (first | (with_reducible first | exact HB.out | apply below_alloc | apply pw_below_drewN | apply below_drew1) | exact HB.out)) hb); clear HB; have HB := n0_; clear n0_; (try clear hb); (try clear hb2); (try clear hk); (try clear hi)) | ((with_reducible refine gate_dst (N := 8) rfl ?_); refine box_event ?hg (N := 8) ?hd (cs := #[.int .i64 0, .int .i64 0, .int .i64 0]) (t := 23) ?hr ?_; (case hd => rfl); (case hg => rfl); (case hr => first | (go_simp; done) | (go_simp; rfl)); intro gb509 hg w51 hbox hb; have n0_ := Aside0.mk (below_step (by repeat (first | (with_reducible first | exact HB.out | apply below_alloc | apply pw_below_drewN | apply below_drew1) | exact HB.out)) hb); have n1_ := Aside0.mk (hbox); have n2_ := Aside0.mk ((by rw [hg]; exact (below_size (by repeat (first | (with_reducible first | exact HB.out | apply below_alloc | apply pw_below_drewN | apply below_drew1) | exact HB.out))) : w.heap.size ≤ gb509)); have n3_ := Aside0.mk ((by rw [hg]; exact (below_size (by repeat (first | (with_reducible first | exact HB.out | apply below_alloc | apply pw_below_drewN | apply below_drew1) | exact HB.out))) : w.heap.size ≤ gb509)); clear HB; have HB := n0_; have BK509 := n1_; have GW509 := n2_; have GE509 := n3_; clear n0_ n1_ n2_ n3_; clear hb hbox hg; have hcz52_0 : w51.cell? ⟨gb509, 0, none⟩ = some (.int .i64 0) := (blk_cell BK509.out 0).trans rfl; have hcz52_1 : w51.cell? ⟨gb509, 1, none⟩ = some (.int .i64 0) := (blk_cell BK509.out 1).trans rfl; have hcz52_2 : w51.cell? ⟨gb509, 2, none⟩ = some (.int .i64 0) := (blk_cell BK509.out 2).trans rfl; have hfz52_0 := blk_frozen BK509.out 0; have hfz52_1 := blk_frozen BK509.out 1; have hfz52_2 := blk_frozen BK509.out 2) | ((with_reducible refine gate_callee (f := 20) rfl ?_); refine goesL_ (some 27) rfl rfl Try.func20 (by kernel_rfl) rfl #[.agg #[.int .i64 t505, .int .i64 t506, .int .i64 t507], .int .i64 4] rfl (by (try simp only [List.map_toArray, List.map_cons, List.map_nil]); first | done | rfl | (simp only [List.length_drop, List.length_take]; rfl)) ?_; (with_reducible refine (panel_Order.calls k t505 t506 t507 4 t510 t511 t512 t513 _ A6.out).mono ?_); rintro e w53 ⟨rfl, hb⟩; refine ⟨_, rfl, ?_⟩; have n0_ := Aside0.mk (blk_below (g := gb509) (o := .cells #[.int .i64 t505, .int .i64 t506, .int .i64 t507] 23 (0, 0)) (by (with_reducible repeat (first | refine blk_drewN ?_ _ | refine blk_drew ?_ | refine blk_alloc ?_ _)); refine blk_put (cs := #[.int .i64 t505, .int .i64 t506, .int .i64 0]) ?_ 2 _ rfl; (with_reducible repeat (first | refine blk_drewN ?_ _ | refine blk_drew ?_ | refine blk_alloc ?_ _)); refine blk_put (cs := #[.int .i64 t505, .int .i64 0, .int .i64 0]) ?_ 1 _ rfl; (with_reducible repeat (first | refine blk_drewN ?_ _ | refine blk_drew ?_ | refine blk_alloc ?_ _)); refine blk_put (cs := #[.int .i64 0, .int .i64 0, .int .i64 0]) ?_ 0 _ rfl; (with_reducible repeat (first | refine blk_drewN ?_ _ | refine blk_drew ?_ | refine blk_alloc ?_ _)); exact BK509.out) hb); have n1_ := Aside0.mk (below_step (by repeat (first | (with_reducible first | exact HB.out | apply below_alloc | apply pw_below_drewN | apply below_drew1 | refine below_set ?_ GE509.out) | exact HB.out)) hb); clear BK509; clear HB; have BK509 := n0_; have HB := n1_; clear n0_ n1_; (try clear hb); (try clear hb2); (try clear hk); (try clear hi)) | ((with_reducible refine gate_dst (N := 10) rfl ?_); refine box_event ?hg (N := 10) ?hd (cs := #[.int .i64 0, .int .i64 0, .int .i64 0]) (t := 23) ?hr ?_; (case hd => rfl); (case hg => rfl); (case hr => first | (go_simp; done) | (go_simp; rfl)); intro gb514 hg w54 hbox hb; have n0_ := Aside0.mk (blk_below (g := gb509) (o := .cells #[.int .i64 t505, .int .i64 t506, .int .i64 t507] 23 (0, 0)) (by (with_reducible repeat (first | refine blk_drewN ?_ _ | refine blk_drew ?_ | refine blk_alloc ?_ _)); exact BK509.out) hb); have n1_ := Aside0.mk (below_step (by repeat (first | (with_reducible first | exact HB.out | apply below_alloc | apply pw_below_drewN | apply below_drew1 | refine below_set ?_ GE509.out) | exact HB.out)) hb); have n2_ := Aside0.mk (hbox); have n3_ := Aside0.mk ((by rw [hg]; exact (below_size (by repeat (first | (with_reducible first | exact HB.out | apply below_alloc | apply pw_below_drewN | apply below_drew1 | refine below_set ?_ GE509.out) | exact HB.out))) : w.heap.size ≤ gb514)); have n4_ := Aside0.mk ((by rw [hg]; exact (below_size (by repeat (first | (with_reducible first | exact HB.out | apply below_alloc | apply pw_below_drewN | apply below_drew1 | refine below_set ?_ GE509.out) | exact HB.out))) : w.heap.size ≤ gb514)); have n5_ := Aside0.mk ((by rw [hg]; exact Nat.ne_of_lt (blk_lt (g := gb509) (o := .cells #[.int .i64 t505, .int .i64 t506, .int .i64 t507] 23 (0, 0)) (by (with_reducible repeat (first | refine blk_drewN ?_ _ | refine blk_drew ?_ | refine blk_alloc ?_ _)); exact BK509.out)) : gb509 ≠ gb514)); have n6_ := Aside0.mk ((by rw [hg]; exact Nat.ne_of_gt (blk_lt (g := gb509) (o := .cells #[.int .i64 t505, .int .i64 t506, .int .i64 t507] 23 (0, 0)) (by (with_reducible repeat (first | refine blk_drewN ?_ _ | refine blk_drew ?_ | refine blk_alloc ?_ _)); exact BK509.out)) : gb514 ≠ gb509)); clear BK509; clear HB; have BK509 := n0_; have HB := n1_; have BK514 := n2_; have GW514 := n3_; have GE514 := n4_; have NB509_514 := n5_; have NB514_509 := n6_; clear n0_ n1_ n2_ n3_ n4_ n5_ n6_; clear hb hbox hg; have hnb55 := NB514_509.out; have hnc55 := NB509_514.out; have hcz56_0 : w54.cell? ⟨gb514, 0, none⟩ = some (.int .i64 0) := (blk_cell BK514.out 0).trans rfl; have hcz56_1 : w54.cell? ⟨gb514, 1, none⟩ = some (.int .i64 0) := (blk_cell BK514.out 1).trans rfl; have hcz56_2 : w54.cell? ⟨gb514, 2, none⟩ = some (.int .i64 0) := (blk_cell BK514.out 2).trans rfl; have hfz56_0 := blk_frozen BK514.out 0; have hfz56_1 := blk_frozen BK514.out 1; have hfz56_2 := blk_frozen BK514.out 2) | ((with_reducible refine gate_callee (f := 20) rfl ?_); refine goesL_ (some 32) rfl rfl Try.func20 (by kernel_rfl) rfl #[.agg #[.int .i64 t510, .int .i64 t511, .int .i64 t512], .int .i64 4] rfl (by (try simp only [List.map_toArray, List.map_cons, List.map_nil]); first | done | rfl | (simp only [List.length_drop, List.length_take]; rfl)) ?_; (with_reducible refine (panel_Order.calls k t510 t511 t512 4 t515 t516 t517 t518 _ A7.out).mono ?_); rintro e w57 ⟨rfl, hb⟩; refine ⟨_, rfl, ?_⟩; have n0_ := Aside0.mk (blk_below (g := gb509) (o := .cells #[.int .i64 t505, .int .i64 t506, .int .i64 t507] 23 (0, 0)) (by (with_reducible repeat (first | refine blk_drewN ?_ _ | refine blk_drew ?_ | refine blk_alloc ?_ _)); refine blk_far ?_ NB509_514.out _; (with_reducible repeat (first | refine blk_drewN ?_ _ | refine blk_drew ?_ | refine blk_alloc ?_ _)); refine blk_far ?_ NB509_514.out _; (with_reducible repeat (first | refine blk_drewN ?_ _ | refine blk_drew ?_ | refine blk_alloc ?_ _)); refine blk_far ?_ NB509_514.out _; (with_reducible repeat (first | refine blk_drewN ?_ _ | refine blk_drew ?_ | refine blk_alloc ?_ _)); exact BK509.out) hb); have n1_ := Aside0.mk (blk_below (g := gb514) (o := .cells #[.int .i64 t510, .int .i64 t511, .int .i64 t512] 23 (0, 0)) (by (with_reducible repeat (first | refine blk_drewN ?_ _ | refine blk_drew ?_ | refine blk_alloc ?_ _)); refine blk_put (cs := #[.int .i64 t510, .int .i64 t511, .int .i64 0]) ?_ 2 _ rfl; (with_reducible repeat (first | refine blk_drewN ?_ _ | refine blk_drew ?_ | refine blk_alloc ?_ _)); refine blk_put (cs := #[.int .i64 t510, .int .i64 0, .int .i64 0]) ?_ 1 _ rfl; (with_reducible repeat (first | refine blk_drewN ?_ _ | refine blk_drew ?_ | refine blk_alloc ?_ _)); refine blk_put (cs := #[.int .i64 0, .int .i64 0, .int .i64 0]) ?_ 0 _ rfl; (with_reducible repeat (first | refine blk_drewN ?_ _ | refine blk_drew ?_ | refine blk_alloc ?_ _)); exact BK514.out) hb); have n2_ := Aside0.mk (below_step (by repeat (first | (with_reducible first | exact HB.out | apply below_alloc | apply pw_below_drewN | apply below_drew1 | refine below_set ?_ GE509.out | refine below_set ?_ GE514.out) | exact HB.out)) hb); clear BK509; clear BK514; clear HB; have BK509 := n0_; have BK514 := n1_; have HB := n2_; clear n0_ n1_ n2_; (try clear hb); (try clear hb2); (try clear hk); (try clear hi)) | ((with_reducible refine gate_dst (N := 12) rfl ?_); refine box_event ?hg (N := 12) ?hd (cs := #[.int .i64 0, .int .i64 0, .int .i64 0]) (t := 23) ?hr ?_; (case hd => rfl); (case hg => rfl); (case hr => first | (go_simp; done) | (go_simp; rfl)); intro gb519 hg w58 hbox hb; have n0_ := Aside0.mk (blk_below (g := gb509) (o := .cells #[.int .i64 t505, .int .i64 t506, .int .i64 t507] 23 (0, 0)) (by (with_reducible repeat (first | refine blk_drewN ?_ _ | refine blk_drew ?_ | refine blk_alloc ?_ _)); exact BK509.out) hb); have n1_ := Aside0.mk (blk_below (g := gb514) (o := .cells #[.int .i64 t510, .int .i64 t511, .int .i64 t512] 23 (0, 0)) (by (with_reducible repeat (first | refine blk_drewN ?_ _ | refine blk_drew ?_ | refine blk_alloc ?_ _)); exact BK514.out) hb); have n2_ := Aside0.mk (below_step (by repeat (first | (with_reducible first | exact HB.out | apply below_alloc | apply pw_below_drewN | apply below_drew1 | refine below_set ?_ GE509.out | refine below_set ?_ GE514.out) | exact HB.out)) hb); have n3_ := Aside0.mk (hbox); have n4_ := Aside0.mk ((by rw [hg]; exact (below_size (by repeat (first | (with_reducible first | exact HB.out | apply below_alloc | apply pw_below_drewN | apply below_drew1 | refine below_set ?_ GE509.out | refine below_set ?_ GE514.out) | exact HB.out))) : w.heap.size ≤ gb519)); have n5_ := Aside0.mk ((by rw [hg]; exact (below_size (by repeat (first | (with_reducible first | exact HB.out | apply below_alloc | apply pw_below_drewN | apply below_drew1 | refine below_set ?_ GE509.out | refine below_set ?_ GE514.out) | exact HB.out))) : w.heap.size ≤ gb519)); have n6_ := Aside0.mk ((by rw [hg]; exact Nat.ne_of_lt (blk_lt (g := gb509) (o := .cells #[.int .i64 t505, .int .i64 t506, .int .i64 t507] 23 (0, 0)) (by (with_reducible repeat (first | refine blk_drewN ?_ _ | refine blk_drew ?_ | refine blk_alloc ?_ _)); exact BK509.out)) : gb509 ≠ gb519)); have n7_ := Aside0.mk ((by rw [hg]; exact Nat.ne_of_gt (blk_lt (g := gb509) (o := .cells #[.int .i64 t505, .int .i64 t506, .int .i64 t507] 23 (0, 0)) (by (with_reducible repeat (first | refine blk_drewN ?_ _ | refine blk_drew ?_ | refine blk_alloc ?_ _)); exact BK509.out)) : gb519 ≠ gb509)); have n8_ := Aside0.mk ((by rw [hg]; exact Nat.ne_of_lt (blk_lt (g := gb514) (o := .cells #[.int .i64 t510, .int .i64 t511, .int .i64 t512] 23 (0, 0)) (by (with_reducible repeat (first | refine blk_drewN ?_ _ | refine blk_drew ?_ | refine blk_alloc ?_ _)); exact BK514.out)) : gb514 ≠ gb519)); have n9_ := Aside0.mk ((by rw [hg]; exact Nat.ne_of_gt (blk_lt (g := gb514) (o := .cells #[.int .i64 t510, .int .i64 t511, .int .i64 t512] 23 (0, 0)) (by (with_reducible repeat (first | refine blk_drewN ?_ _ | refine blk_drew ?_ | refine blk_alloc ?_ _)); exact BK514.out)) : gb519 ≠ gb514)); clear BK509; clear BK514; clear HB; have BK509 := n0_; have BK514 := n1_; have HB := n2_; have BK519 := n3_; have GW519 := n4_; have GE519 := n5_; have NB509_519 := n6_; have NB519_509 := n7_; have NB514_519 := n8_; have NB519_514 := n9_; clear n0_ n1_ n2_ n3_ n4_ n5_ n6_ n7_ n8_ n9_; clear hb hbox hg; have hnb59 := NB519_509.out; have hnc59 := NB509_519.out; have hnb60 := NB519_514.out; have hnc60 := NB514_519.out; have hcz61_0 : w58.cell? ⟨gb519, 0, none⟩ = some (.int .i64 0) := (blk_cell BK519.out 0).trans rfl; have hcz61_1 : w58.cell? ⟨gb519, 1, none⟩ = some (.int .i64 0) := (blk_cell BK519.out 1).trans rfl; have hcz61_2 : w58.cell? ⟨gb519, 2, none⟩ = some (.int .i64 0) := (blk_cell BK519.out 2).trans rfl; have hfz61_0 := blk_frozen BK519.out 0; have hfz61_1 := blk_frozen BK519.out 1; have hfz61_2 := blk_frozen BK519.out 2))
            have n0_ : Aside0 ((((w58.setCell ⟨gb519, 0, none⟩ (.int .i64 t515)).setCell ⟨gb519, 1, none⟩ (.int .i64 t516)).setCell ⟨gb519, 2, none⟩ (.int .i64 t517)).heap[gb509]? = some (.cells #[.int .i64 t505, .int .i64 t506, .int .i64 t507] 23 (0, 0))) := ⟨by (with_reducible repeat (first | refine blk_drewN ?_ _ | refine blk_drew ?_ | refine blk_alloc ?_ _)); refine blk_far ?_ NB509_519.out _; (with_reducible repeat (first | refine blk_drewN ?_ _ | refine blk_drew ?_ | refine blk_alloc ?_ _)); refine blk_far ?_ NB509_519.out _; (with_reducible repeat (first | refine blk_drewN ?_ _ | refine blk_drew ?_ | refine blk_alloc ?_ _)); refine blk_far ?_ NB509_519.out _; (with_reducible repeat (first | refine blk_drewN ?_ _ | refine blk_drew ?_ | refine blk_alloc ?_ _)); exact BK509.out⟩
            have n1_ : Aside0 ((((w58.setCell ⟨gb519, 0, none⟩ (.int .i64 t515)).setCell ⟨gb519, 1, none⟩ (.int .i64 t516)).setCell ⟨gb519, 2, none⟩ (.int .i64 t517)).heap[gb514]? = some (.cells #[.int .i64 t510, .int .i64 t511, .int .i64 t512] 23 (0, 0))) := ⟨by (with_reducible repeat (first | refine blk_drewN ?_ _ | refine blk_drew ?_ | refine blk_alloc ?_ _)); refine blk_far ?_ NB514_519.out _; (with_reducible repeat (first | refine blk_drewN ?_ _ | refine blk_drew ?_ | refine blk_alloc ?_ _)); refine blk_far ?_ NB514_519.out _; (with_reducible repeat (first | refine blk_drewN ?_ _ | refine blk_drew ?_ | refine blk_alloc ?_ _)); refine blk_far ?_ NB514_519.out _; (with_reducible repeat (first | refine blk_drewN ?_ _ | refine blk_drew ?_ | refine blk_alloc ?_ _)); exact BK514.out⟩
            have n2_ : Aside0 ((((w58.setCell ⟨gb519, 0, none⟩ (.int .i64 t515)).setCell ⟨gb519, 1, none⟩ (.int .i64 t516)).setCell ⟨gb519, 2, none⟩ (.int .i64 t517)).heap[gb519]? = some (.cells #[.int .i64 t515, .int .i64 t516, .int .i64 t517] 23 (0, 0))) := ⟨by (with_reducible repeat (first | refine blk_drewN ?_ _ | refine blk_drew ?_ | refine blk_alloc ?_ _)); refine blk_put (cs := #[.int .i64 t515, .int .i64 t516, .int .i64 0]) ?_ 2 _ rfl; (with_reducible repeat (first | refine blk_drewN ?_ _ | refine blk_drew ?_ | refine blk_alloc ?_ _)); refine blk_put (cs := #[.int .i64 t515, .int .i64 0, .int .i64 0]) ?_ 1 _ rfl; (with_reducible repeat (first | refine blk_drewN ?_ _ | refine blk_drew ?_ | refine blk_alloc ?_ _)); refine blk_put (cs := #[.int .i64 0, .int .i64 0, .int .i64 0]) ?_ 0 _ rfl; (with_reducible repeat (first | refine blk_drewN ?_ _ | refine blk_drew ?_ | refine blk_alloc ?_ _)); exact BK519.out⟩
            have n3_ : Aside0 (Below w.heap.size w (((w58.setCell ⟨gb519, 0, none⟩ (.int .i64 t515)).setCell ⟨gb519, 1, none⟩ (.int .i64 t516)).setCell ⟨gb519, 2, none⟩ (.int .i64 t517))) := ⟨by repeat (first | (with_reducible first | exact HB.out | apply below_alloc | apply pw_below_drewN | apply below_drew1 | refine below_set ?_ GE509.out | refine below_set ?_ GE514.out | refine below_set ?_ GE519.out) | exact HB.out)⟩
            (try clear BK509)
            (try clear BK514)
            (try clear BK519)
            (try clear HB)
            generalize (((w58.setCell ⟨gb519, 0, none⟩ (.int .i64 t515)).setCell ⟨gb519, 1, none⟩ (.int .i64 t516)).setCell ⟨gb519, 2, none⟩ (.int .i64 t517)) = w62 at n0_ n1_ n2_ n3_ ⊢
            have BK509 := n0_
            have BK514 := n1_
            have BK519 := n2_
            have HB := n3_
            clear n0_ n1_ n2_ n3_
            have n0_ := Aside0.mk (blk_drew BK509.out)
            have n1_ := Aside0.mk (blk_drew BK514.out)
            have n2_ := Aside0.mk (blk_drew BK519.out)
            have n3_ := Aside0.mk (below_drew1 HB.out)
            clear BK509
            clear BK514
            clear BK519
            clear HB
            have BK509 := n0_
            have BK514 := n1_
            have BK519 := n2_
            have HB := n3_
            clear n0_ n1_ n2_ n3_
            refine start_ (n := 15) (S := fun w' => w'.cell? ⟨gb509, 0, none⟩ = some (.int .i64 t505) ∧ w'.cell? ⟨gb509, 1, none⟩ = some (.int .i64 t506) ∧ w'.cell? ⟨gb509, 2, none⟩ = some (.int .i64 t507)) (ds := []) #[Z,Z,Z,Z,Z,Z,Z,Z,Z,Z,Z,Z,Z,Z,Z] (by kernel_rfl) rfl rfl ⟨(blk_cell BK509.out 0).trans rfl, (blk_cell BK509.out 1).trans rfl, (blk_cell BK509.out 2).trans rfl⟩ (fun hHeld => ?_); refine with_tabW tipstafflaw16_PanelBack.tab5 tipstafflaw16_PanelBack.bits5 (fun HT_ HW_ => ?_)
            generalize w62.drew = w63 at BK509 BK514 BK519 HB hHeld ⊢
            refine pure_ (i := 1) (N := some 37) (v := ?_) (a' := ?_) #[Z,X,Z,Z,Z,Z,Z,Z,Z,Z,Z,Z,Z,Z,Z] rfl rfl (any_of HT_.out (by kernel_rfl)) (fun _ _ _ h => h) (Or.inl ⟨by rfl, ?_⟩) ?_ ?_
            rotate_left
            ·intro w'
             go_simp
             with_reducible rfl
            rotate_left
            ·simp only [Act.put, sA, sB, sC, i64_w, i32_w]
             rfl
            refine take_ (i := 0) (N := some 36) (v := ?_) (a' := ?_) #[X,X,Z,Z,Z,Z,Z,Z,Z,Z,Z,Z,Z,Z,Z] rfl rfl (take_ofW HT_.out HW_.out (by kernel_rfl)) (fun _ _ _ h => h) (Or.inl ⟨by rfl, ?_⟩) hHeld ?_ ?_
            rotate_left
            ·rintro w' ⟨s0, s1, s2⟩
             go_simp
             with_reducible rfl
            rotate_left
            ·simp only [Act.put, sA, sB, sC, i64_w, i32_w]
             rfl
            refine join_ (σ := Value × Nat) 4 #[X,X,X,X,X,X,X,X,X,X,X,Z,Z,Z,Z] (fun s_ => [(38, .int .i64 t520), (39, s_.1), (40, .tuple #[.agg #[.int .i64 t524, .int .i64 t525, .int .i64 t526], .int .i64 t527, .int .i64 t528, .int .i64 t529]), (14, .pointer (some ⟨s_.2, 0, none⟩)), (35, .tuple #[.agg #[.int .i64 t524, .int .i64 t525, .int .i64 t526], .int .i64 t527, .int .i64 t528, .int .i64 t529]), (41, .agg #[.int .i64 t524, .int .i64 t525, .int .i64 t526]), (42, .int .i64 t527), (43, .int .i64 t528), (44, .int .i64 t529)]) (fun s_ w' => (w'.cell? ⟨gb509, 0, none⟩ = some (.int .i64 t505) ∧ w'.cell? ⟨gb509, 1, none⟩ = some (.int .i64 t506) ∧ w'.cell? ⟨gb509, 2, none⟩ = some (.int .i64 t507)) ∧ (Kd.R (Kd.int .i64) 3 w' w.heap.size (fun _ => True) s_.1 y521) ∧ (w'.heap[gb509]? = some (.cells #[.int .i64 t505, .int .i64 t506, .int .i64 t507] 23 (0, 0))) ∧ (w'.heap[gb514]? = some (.cells #[.int .i64 t510, .int .i64 t511, .int .i64 t512] 23 (0, 0))) ∧ (w'.heap[gb519]? = some (.cells #[.int .i64 t515, .int .i64 t516, .int .i64 t517] 23 (0, 0))) ∧ (w'.heap[s_.2]? = some (.cells #[.int .i64 0, .int .i64 0, .int .i64 0] 23 (0, 0))) ∧ (w.heap.size ≤ s_.2) ∧ (w.heap.size ≤ s_.2) ∧ (gb509 ≠ s_.2) ∧ (s_.2 ≠ gb509) ∧ (gb514 ≠ s_.2) ∧ (s_.2 ≠ gb514) ∧ (gb519 ≠ s_.2) ∧ (s_.2 ≠ gb519) ∧ (Below w.heap.size w w')) ?_ ?_
            rotate_left
            ·intro hCont
             refine two_ (i := 2) (j := 10) (Ni := some 38) (Nj := some 14) #[X,X,X,Z,Z,Z,Z,Z,Z,Z,Z,Z,Z,Z,Z] #[X,X,Z,Z,Z,Z,Z,Z,Z,Z,X,Z,Z,Z,Z] rfl rfl rfl rfl (two_of HT_.out (by kernel_rfl)) (by decide) (by decide) (fun K hK => ?_) (fun K hK => ?_)
             ·skip
              refine goes_ Try.func26 (by kernel_rfl) rfl #[.int .i64 a2, .int .i64 60] (by rfl) rfl rfl (by (try simp only [List.map_toArray, List.map_cons, List.map_nil]); first | done | rfl | (simp only [List.length_drop, List.length_take]; rfl)) ?_
              with_reducible refine (tipstaffkit_Mod.calls a2 60 t520 _ A8.out).mono ?_
              rintro e w' ⟨rfl, ⟨nd, rfl⟩⟩
              refine ⟨_, rfl, ?_⟩
              refine hK.out _ _ ⟨(blk_cell BK509.out 0).trans rfl, (blk_cell BK509.out 1).trans rfl, (blk_cell BK509.out 2).trans rfl⟩ (fun hHeld => ?_)
              clear hK K
              refine norm_ (a' := ?_) ?_ ?_
              rotate_left
              ·show Act.put _ (some 38) _ = _
               simp only [Act.put, sA, sB, sC, i64_w, i32_w]
               rfl
              refine two_ (i := 3) (j := 10) (Ni := some 39) (Nj := some 14) #[X,X,X,X,Z,Z,Z,Z,Z,Z,Z,Z,Z,Z,Z] #[X,X,X,Z,Z,Z,Z,Z,Z,Z,X,Z,Z,Z,Z] rfl rfl rfl rfl (two_of HT_.out (by kernel_rfl)) (by decide) (by decide) (fun K hK => ?_) (fun K hK => ?_)
              ·skip
               refine Kd.R_make_step (Kd.int .i64) _ 3 (by rfl) (N := 39) rfl 24 _ _ rfl t520 rfl rfl Try.underlying24 (.int .i64 0) 8 info3 rfl (by decide) (by omega) 0 (ok := fun _ => True) (okp := fun _ => True) rfl (fun _ hk => hk) trivial (of_decide_eq_true (by first | (with_reducible assumption) | assumption)) (Nat.le_trans (Nat.mul_le_mul_right _ (of_decide_eq_true (by first | (with_reducible assumption) | assumption) : t520.toNat ≤ 35184372088832)) (by omega)) (Below.refl _ _) (Nat.le_refl _) ?_
               intro v522 w64 ho65 hb hg_ hnew_
               clear hg_ hnew_
               (first | rw [← Ny521.out] at ho65 | (simp only [Int.reduceToNat] at ho65; rw [← Ny521.out] at ho65))
               have n0_ := Aside0.mk (Kd.R_lower ho65 (below_size (by repeat (first | (with_reducible first | exact HB.out | apply below_alloc | apply pw_below_drewN | apply below_drew1 | refine below_set ?_ GE509.out | refine below_set ?_ GE514.out | refine below_set ?_ GE519.out) | exact HB.out))))
               have n1_ := Aside0.mk (blk_below (g := gb509) (o := .cells #[.int .i64 t505, .int .i64 t506, .int .i64 t507] 23 (0, 0)) (by (with_reducible repeat (first | refine blk_drewN ?_ _ | refine blk_drew ?_ | refine blk_alloc ?_ _)); exact BK509.out) hb)
               have n2_ := Aside0.mk (blk_below (g := gb514) (o := .cells #[.int .i64 t510, .int .i64 t511, .int .i64 t512] 23 (0, 0)) (by (with_reducible repeat (first | refine blk_drewN ?_ _ | refine blk_drew ?_ | refine blk_alloc ?_ _)); exact BK514.out) hb)
               have n3_ := Aside0.mk (blk_below (g := gb519) (o := .cells #[.int .i64 t515, .int .i64 t516, .int .i64 t517] 23 (0, 0)) (by (with_reducible repeat (first | refine blk_drewN ?_ _ | refine blk_drew ?_ | refine blk_alloc ?_ _)); exact BK519.out) hb)
               have n4_ := Aside0.mk (below_step (by repeat (first | (with_reducible first | exact HB.out | apply below_alloc | apply pw_below_drewN | apply below_drew1 | refine below_set ?_ GE509.out | refine below_set ?_ GE514.out | refine below_set ?_ GE519.out) | exact HB.out)) hb)
               clear BK509
               clear BK514
               clear BK519
               clear HB
               have HO523 := n0_
               have BK509 := n1_
               have BK514 := n2_
               have BK519 := n3_
               have HB := n4_
               clear n0_ n1_ n2_ n3_ n4_
               clear hb ho65
               obtain ⟨Ao66, co66, eo66⟩ := Kd.R_slice HO523.out
               (first | subst eo66 | (injection eo66 with f1_ f2_ f3_; have f4_ := f1_.symm; have f5_ := f3_.symm; clear f1_ f2_ f3_; subst f4_; subst f5_))
               refine hK.out _ _ ⟨(blk_cell BK509.out 0).trans rfl, (blk_cell BK509.out 1).trans rfl, (blk_cell BK509.out 2).trans rfl⟩ (fun hHeld => ?_)
               clear hK K
               refine norm_ (a' := ?_) ?_ ?_
               rotate_left
               ·show Act.put _ (some 39) _ = _
                simp only [Act.put, sA, sB, sC, i64_w, i32_w]
                rfl
               refine two_ (i := 4) (j := 10) (Ni := some 40) (Nj := some 14) #[X,X,X,X,X,Z,Z,Z,Z,Z,Z,Z,Z,Z,Z] #[X,X,X,X,Z,Z,Z,Z,Z,Z,X,Z,Z,Z,Z] rfl rfl rfl rfl (two_of HT_.out (by kernel_rfl)) (by decide) (by decide) (fun K hK => ?_) (fun K hK => ?_)
               ·skip
                refine goes_ Try.func11 (by kernel_rfl) rfl #[.agg #[.int .i64 t505, .int .i64 t506, .int .i64 t507], .slice Ao66 y521.length co66] (by rfl) rfl rfl (by (try simp only [List.map_toArray, List.map_cons, List.map_nil]); first | done | rfl | (simp only [List.length_drop, List.length_take]; rfl)) ?_
                with_reducible refine (panel_Swing.calls k t505 t506 t507 _ _ y521 t524 t525 t526 t527 t528 t529 _ ?side1 ?side2 A11.out).mono ?_
                (case side1 => repeat (first | exact (Kd.R_reads' HO523.out).2.2 | (with_reducible refine Kd.C_alloc ?_ _) | (with_reducible refine Kd.C_drewN ?_ _) | (with_reducible refine Kd.C_drew ?_)))
                (case side2 => exact (Kd.R_reads' HO523.out).2.1)
                rintro e w67 ⟨rfl, hb⟩
                refine ⟨_, rfl, ?_⟩
                have n0_ := Aside0.mk (Kd.R_below (by (with_reducible repeat (first | apply Kd.R_alloc | apply Kd.R_drewN | apply Kd.R_drew)); exact HO523.out) hb)
                have n1_ := Aside0.mk (blk_below (g := gb509) (o := .cells #[.int .i64 t505, .int .i64 t506, .int .i64 t507] 23 (0, 0)) (by (with_reducible repeat (first | refine blk_drewN ?_ _ | refine blk_drew ?_ | refine blk_alloc ?_ _)); exact BK509.out) hb)
                have n2_ := Aside0.mk (blk_below (g := gb514) (o := .cells #[.int .i64 t510, .int .i64 t511, .int .i64 t512] 23 (0, 0)) (by (with_reducible repeat (first | refine blk_drewN ?_ _ | refine blk_drew ?_ | refine blk_alloc ?_ _)); exact BK514.out) hb)
                have n3_ := Aside0.mk (blk_below (g := gb519) (o := .cells #[.int .i64 t515, .int .i64 t516, .int .i64 t517] 23 (0, 0)) (by (with_reducible repeat (first | refine blk_drewN ?_ _ | refine blk_drew ?_ | refine blk_alloc ?_ _)); exact BK519.out) hb)
                have n4_ := Aside0.mk (below_step (by repeat (first | (with_reducible first | exact HB.out | apply below_alloc | apply pw_below_drewN | apply below_drew1 | refine below_set ?_ GE509.out | refine below_set ?_ GE514.out | refine below_set ?_ GE519.out) | exact HB.out)) hb)
                clear HO523
                clear BK509
                clear BK514
                clear BK519
                clear HB
                have HO523 := n0_
                have BK509 := n1_
                have BK514 := n2_
                have BK519 := n3_
                have HB := n4_
                clear n0_ n1_ n2_ n3_ n4_
                (try clear hb)
                (try clear hb2)
                (try clear hk)
                (try clear hi)
                refine hK.out _ _ ⟨(blk_cell BK509.out 0).trans rfl, (blk_cell BK509.out 1).trans rfl, (blk_cell BK509.out 2).trans rfl⟩ (fun hHeld => ?_)
                clear hK K
                refine norm_ (a' := ?_) ?_ ?_
                rotate_left
                ·show Act.put _ (some 40) _ = _
                 simp only [Act.put, sA, sB, sC, i64_w, i32_w]
                 rfl
                refine pure_ (i := 5) (N := some 35) (v := ?_) (a' := ?_) #[X,X,X,X,X,X,Z,Z,Z,Z,Z,Z,Z,Z,Z] rfl rfl (any_of HT_.out (by kernel_rfl)) (fun _ _ _ h => h) (Or.inl ⟨by rfl, ?_⟩) ?_ ?_
                rotate_left
                ·intro w'
                 go_simp
                 with_reducible rfl
                rotate_left
                ·simp only [Act.put, sA, sB, sC, i64_w, i32_w]
                 rfl
                refine pure_ (i := 6) (N := some 41) (v := ?_) (a' := ?_) #[X,X,X,X,X,X,X,Z,Z,Z,Z,Z,Z,Z,Z] rfl rfl (any_of HT_.out (by kernel_rfl)) (fun _ _ _ h => h) (Or.inl ⟨by rfl, ?_⟩) ?_ ?_
                rotate_left
                ·intro w'
                 go_simp
                 with_reducible rfl
                rotate_left
                ·simp only [Act.put, sA, sB, sC, i64_w, i32_w]
                 rfl
                refine pure_ (i := 7) (N := some 42) (v := ?_) (a' := ?_) #[X,X,X,X,X,X,X,X,Z,Z,Z,Z,Z,Z,Z] rfl rfl (any_of HT_.out (by kernel_rfl)) (fun _ _ _ h => h) (Or.inl ⟨by rfl, ?_⟩) ?_ ?_
                rotate_left
                ·intro w'
                 go_simp
                 with_reducible rfl
                rotate_left
                ·simp only [Act.put, sA, sB, sC, i64_w, i32_w]
                 rfl
                refine pure_ (i := 8) (N := some 43) (v := ?_) (a' := ?_) #[X,X,X,X,X,X,X,X,X,Z,Z,Z,Z,Z,Z] rfl rfl (any_of HT_.out (by kernel_rfl)) (fun _ _ _ h => h) (Or.inl ⟨by rfl, ?_⟩) ?_ ?_
                rotate_left
                ·intro w'
                 go_simp
                 with_reducible rfl
                rotate_left
                ·simp only [Act.put, sA, sB, sC, i64_w, i32_w]
                 rfl
                refine pure_ (i := 9) (N := some 44) (v := ?_) (a' := ?_) #[X,X,X,X,X,X,X,X,X,X,Z,Z,Z,Z,Z] rfl rfl (any_of HT_.out (by kernel_rfl)) (fun _ _ _ h => h) (Or.inl ⟨by rfl, ?_⟩) ?_ ?_
                rotate_left
                ·intro w'
                 go_simp
                 with_reducible rfl
                rotate_left
                ·simp only [Act.put, sA, sB, sC, i64_w, i32_w]
                 rfl
                refine one_ (i := 10) (N := some 14) #[X,X,X,X,X,X,X,X,X,X,X,Z,Z,Z,Z] rfl rfl (one_of HT_.out (by kernel_rfl)) (by decide) (fun K hK => ?_)
                refine box_step ?hg (N := 14) ?hd (cs := #[.int .i64 0, .int .i64 0, .int .i64 0]) (t := 23) ?hr ?_; (case hd => rfl); (case hg => rfl); (case hr => first | (go_simp; done) | (go_simp; rfl))
                intro gb530 hg w68 hbox hb
                have n0_ := Aside0.mk (Kd.R_below (by (with_reducible repeat (first | apply Kd.R_alloc | apply Kd.R_drewN | apply Kd.R_drew)); exact HO523.out) hb)
                have n1_ := Aside0.mk (blk_below (g := gb509) (o := .cells #[.int .i64 t505, .int .i64 t506, .int .i64 t507] 23 (0, 0)) (by (with_reducible repeat (first | refine blk_drewN ?_ _ | refine blk_drew ?_ | refine blk_alloc ?_ _)); exact BK509.out) hb)
                have n2_ := Aside0.mk (blk_below (g := gb514) (o := .cells #[.int .i64 t510, .int .i64 t511, .int .i64 t512] 23 (0, 0)) (by (with_reducible repeat (first | refine blk_drewN ?_ _ | refine blk_drew ?_ | refine blk_alloc ?_ _)); exact BK514.out) hb)
                have n3_ := Aside0.mk (blk_below (g := gb519) (o := .cells #[.int .i64 t515, .int .i64 t516, .int .i64 t517] 23 (0, 0)) (by (with_reducible repeat (first | refine blk_drewN ?_ _ | refine blk_drew ?_ | refine blk_alloc ?_ _)); exact BK519.out) hb)
                have n4_ := Aside0.mk (below_step (by repeat (first | (with_reducible first | exact HB.out | apply below_alloc | apply pw_below_drewN | apply below_drew1 | refine below_set ?_ GE509.out | refine below_set ?_ GE514.out | refine below_set ?_ GE519.out) | exact HB.out)) hb)
                have n5_ := Aside0.mk (hbox)
                have n6_ := Aside0.mk ((by rw [hg]; exact (below_size (by repeat (first | (with_reducible first | exact HB.out | apply below_alloc | apply pw_below_drewN | apply below_drew1 | refine below_set ?_ GE509.out | refine below_set ?_ GE514.out | refine below_set ?_ GE519.out) | exact HB.out))) : w.heap.size ≤ gb530))
                have n7_ := Aside0.mk ((by rw [hg]; exact (below_size (by repeat (first | (with_reducible first | exact HB.out | apply below_alloc | apply pw_below_drewN | apply below_drew1 | refine below_set ?_ GE509.out | refine below_set ?_ GE514.out | refine below_set ?_ GE519.out) | exact HB.out))) : w.heap.size ≤ gb530))
                have n8_ := Aside0.mk ((by rw [hg]; exact Nat.ne_of_lt (blk_lt (g := gb509) (o := .cells #[.int .i64 t505, .int .i64 t506, .int .i64 t507] 23 (0, 0)) (by (with_reducible repeat (first | refine blk_drewN ?_ _ | refine blk_drew ?_ | refine blk_alloc ?_ _)); exact BK509.out)) : gb509 ≠ gb530))
                have n9_ := Aside0.mk ((by rw [hg]; exact Nat.ne_of_gt (blk_lt (g := gb509) (o := .cells #[.int .i64 t505, .int .i64 t506, .int .i64 t507] 23 (0, 0)) (by (with_reducible repeat (first | refine blk_drewN ?_ _ | refine blk_drew ?_ | refine blk_alloc ?_ _)); exact BK509.out)) : gb530 ≠ gb509))
                have n10_ := Aside0.mk ((by rw [hg]; exact Nat.ne_of_lt (blk_lt (g := gb514) (o := .cells #[.int .i64 t510, .int .i64 t511, .int .i64 t512] 23 (0, 0)) (by (with_reducible repeat (first | refine blk_drewN ?_ _ | refine blk_drew ?_ | refine blk_alloc ?_ _)); exact BK514.out)) : gb514 ≠ gb530))
                have n11_ := Aside0.mk ((by rw [hg]; exact Nat.ne_of_gt (blk_lt (g := gb514) (o := .cells #[.int .i64 t510, .int .i64 t511, .int .i64 t512] 23 (0, 0)) (by (with_reducible repeat (first | refine blk_drewN ?_ _ | refine blk_drew ?_ | refine blk_alloc ?_ _)); exact BK514.out)) : gb530 ≠ gb514))
                have n12_ := Aside0.mk ((by rw [hg]; exact Nat.ne_of_lt (blk_lt (g := gb519) (o := .cells #[.int .i64 t515, .int .i64 t516, .int .i64 t517] 23 (0, 0)) (by (with_reducible repeat (first | refine blk_drewN ?_ _ | refine blk_drew ?_ | refine blk_alloc ?_ _)); exact BK519.out)) : gb519 ≠ gb530))
                have n13_ := Aside0.mk ((by rw [hg]; exact Nat.ne_of_gt (blk_lt (g := gb519) (o := .cells #[.int .i64 t515, .int .i64 t516, .int .i64 t517] 23 (0, 0)) (by (with_reducible repeat (first | refine blk_drewN ?_ _ | refine blk_drew ?_ | refine blk_alloc ?_ _)); exact BK519.out)) : gb530 ≠ gb519))
                clear HO523
                clear BK509
                clear BK514
                clear BK519
                clear HB
                have HO523 := n0_
                have BK509 := n1_
                have BK514 := n2_
                have BK519 := n3_
                have HB := n4_
                have BK530 := n5_
                have GW530 := n6_
                have GE530 := n7_
                have NB509_530 := n8_
                have NB530_509 := n9_
                have NB514_530 := n10_
                have NB530_514 := n11_
                have NB519_530 := n12_
                have NB530_519 := n13_
                clear n0_ n1_ n2_ n3_ n4_ n5_ n6_ n7_ n8_ n9_ n10_ n11_ n12_ n13_
                clear hb hbox hg
                refine hK.out _ _ ⟨(blk_cell BK509.out 0).trans rfl, (blk_cell BK509.out 1).trans rfl, (blk_cell BK509.out 2).trans rfl⟩ (fun hHeld => ?_)
                clear hK K
                refine norm_ (a' := ?_) ?_ ?_
                rotate_left
                ·show Act.put _ (some 14) _ = _
                 simp only [Act.put, sA, sB, sC, i64_w, i32_w]
                 rfl
                exact norm_ (by simp only [putAll, Act.put, List.setIfInBounds_toArray, List.set_cons_zero, List.set_cons_succ]) (hCont (.slice Ao66 y521.length co66, gb530) _ ⟨hHeld, (by (with_reducible repeat (first | apply Kd.R_alloc | apply Kd.R_drewN | apply Kd.R_drew)); exact HO523.out), (by (with_reducible repeat (first | refine blk_drewN ?_ _ | refine blk_drew ?_ | refine blk_alloc ?_ _)); exact BK509.out), (by (with_reducible repeat (first | refine blk_drewN ?_ _ | refine blk_drew ?_ | refine blk_alloc ?_ _)); exact BK514.out), (by (with_reducible repeat (first | refine blk_drewN ?_ _ | refine blk_drew ?_ | refine blk_alloc ?_ _)); exact BK519.out), (by (with_reducible repeat (first | refine blk_drewN ?_ _ | refine blk_drew ?_ | refine blk_alloc ?_ _)); exact BK530.out), GW530.out, GE530.out, NB509_530.out, NB530_509.out, NB514_530.out, NB530_514.out, NB519_530.out, NB530_519.out, (by repeat (first | (with_reducible first | exact HB.out | apply below_alloc | apply pw_below_drewN | apply below_drew1 | refine below_set ?_ GE509.out | refine below_set ?_ GE514.out | refine below_set ?_ GE519.out | refine below_set ?_ GE530.out) | exact HB.out))⟩)
               ·skip
                refine box_step ?hg (N := 14) ?hd (cs := #[.int .i64 0, .int .i64 0, .int .i64 0]) (t := 23) ?hr ?_; (case hd => rfl); (case hg => rfl); (case hr => first | (go_simp; done) | (go_simp; rfl))
                intro gb530 hg w66 hbox hb
                have n0_ := Aside0.mk (Kd.R_below (by (with_reducible repeat (first | apply Kd.R_alloc | apply Kd.R_drewN | apply Kd.R_drew)); exact HO523.out) hb)
                have n1_ := Aside0.mk (blk_below (g := gb509) (o := .cells #[.int .i64 t505, .int .i64 t506, .int .i64 t507] 23 (0, 0)) (by (with_reducible repeat (first | refine blk_drewN ?_ _ | refine blk_drew ?_ | refine blk_alloc ?_ _)); exact BK509.out) hb)
                have n2_ := Aside0.mk (blk_below (g := gb514) (o := .cells #[.int .i64 t510, .int .i64 t511, .int .i64 t512] 23 (0, 0)) (by (with_reducible repeat (first | refine blk_drewN ?_ _ | refine blk_drew ?_ | refine blk_alloc ?_ _)); exact BK514.out) hb)
                have n3_ := Aside0.mk (blk_below (g := gb519) (o := .cells #[.int .i64 t515, .int .i64 t516, .int .i64 t517] 23 (0, 0)) (by (with_reducible repeat (first | refine blk_drewN ?_ _ | refine blk_drew ?_ | refine blk_alloc ?_ _)); exact BK519.out) hb)
                have n4_ := Aside0.mk (below_step (by repeat (first | (with_reducible first | exact HB.out | apply below_alloc | apply pw_below_drewN | apply below_drew1 | refine below_set ?_ GE509.out | refine below_set ?_ GE514.out | refine below_set ?_ GE519.out) | exact HB.out)) hb)
                have n5_ := Aside0.mk (hbox)
                have n6_ := Aside0.mk ((by rw [hg]; exact (below_size (by repeat (first | (with_reducible first | exact HB.out | apply below_alloc | apply pw_below_drewN | apply below_drew1 | refine below_set ?_ GE509.out | refine below_set ?_ GE514.out | refine below_set ?_ GE519.out) | exact HB.out))) : w.heap.size ≤ gb530))
                have n7_ := Aside0.mk ((by rw [hg]; exact (below_size (by repeat (first | (with_reducible first | exact HB.out | apply below_alloc | apply pw_below_drewN | apply below_drew1 | refine below_set ?_ GE509.out | refine below_set ?_ GE514.out | refine below_set ?_ GE519.out) | exact HB.out))) : w.heap.size ≤ gb530))
                have n8_ := Aside0.mk ((by rw [hg]; exact Nat.ne_of_lt (blk_lt (g := gb509) (o := .cells #[.int .i64 t505, .int .i64 t506, .int .i64 t507] 23 (0, 0)) (by (with_reducible repeat (first | refine blk_drewN ?_ _ | refine blk_drew ?_ | refine blk_alloc ?_ _)); exact BK509.out)) : gb509 ≠ gb530))
                have n9_ := Aside0.mk ((by rw [hg]; exact Nat.ne_of_gt (blk_lt (g := gb509) (o := .cells #[.int .i64 t505, .int .i64 t506, .int .i64 t507] 23 (0, 0)) (by (with_reducible repeat (first | refine blk_drewN ?_ _ | refine blk_drew ?_ | refine blk_alloc ?_ _)); exact BK509.out)) : gb530 ≠ gb509))
                have n10_ := Aside0.mk ((by rw [hg]; exact Nat.ne_of_lt (blk_lt (g := gb514) (o := .cells #[.int .i64 t510, .int .i64 t511, .int .i64 t512] 23 (0, 0)) (by (with_reducible repeat (first | refine blk_drewN ?_ _ | refine blk_drew ?_ | refine blk_alloc ?_ _)); exact BK514.out)) : gb514 ≠ gb530))
                have n11_ := Aside0.mk ((by rw [hg]; exact Nat.ne_of_gt (blk_lt (g := gb514) (o := .cells #[.int .i64 t510, .int .i64 t511, .int .i64 t512] 23 (0, 0)) (by (with_reducible repeat (first | refine blk_drewN ?_ _ | refine blk_drew ?_ | refine blk_alloc ?_ _)); exact BK514.out)) : gb530 ≠ gb514))
                have n12_ := Aside0.mk ((by rw [hg]; exact Nat.ne_of_lt (blk_lt (g := gb519) (o := .cells #[.int .i64 t515, .int .i64 t516, .int .i64 t517] 23 (0, 0)) (by (with_reducible repeat (first | refine blk_drewN ?_ _ | refine blk_drew ?_ | refine blk_alloc ?_ _)); exact BK519.out)) : gb519 ≠ gb530))
                have n13_ := Aside0.mk ((by rw [hg]; exact Nat.ne_of_gt (blk_lt (g := gb519) (o := .cells #[.int .i64 t515, .int .i64 t516, .int .i64 t517] 23 (0, 0)) (by (with_reducible repeat (first | refine blk_drewN ?_ _ | refine blk_drew ?_ | refine blk_alloc ?_ _)); exact BK519.out)) : gb530 ≠ gb519))
                clear HO523
                clear BK509
                clear BK514
                clear BK519
                clear HB
                have HO523 := n0_
                have BK509 := n1_
                have BK514 := n2_
                have BK519 := n3_
                have HB := n4_
                have BK530 := n5_
                have GW530 := n6_
                have GE530 := n7_
                have NB509_530 := n8_
                have NB530_509 := n9_
                have NB514_530 := n10_
                have NB530_514 := n11_
                have NB519_530 := n12_
                have NB530_519 := n13_
                clear n0_ n1_ n2_ n3_ n4_ n5_ n6_ n7_ n8_ n9_ n10_ n11_ n12_ n13_
                clear hb hbox hg
                obtain ⟨Ao67, co67, eo67⟩ := Kd.R_slice HO523.out
                (first | subst eo67 | (injection eo67 with f1_ f2_ f3_; have f4_ := f1_.symm; have f5_ := f3_.symm; clear f1_ f2_ f3_; subst f4_; subst f5_))
                refine hK.out _ _ ⟨(blk_cell BK509.out 0).trans rfl, (blk_cell BK509.out 1).trans rfl, (blk_cell BK509.out 2).trans rfl⟩ (fun hHeld => ?_)
                clear hK K
                refine norm_ (a' := ?_) ?_ ?_
                rotate_left
                ·show Act.put _ (some 14) _ = _
                 simp only [Act.put, sA, sB, sC, i64_w, i32_w]
                 rfl
                refine one_ (i := 4) (N := some 40) #[X,X,X,X,X,Z,Z,Z,Z,Z,X,Z,Z,Z,Z] rfl rfl (one_of HT_.out (by kernel_rfl)) (by decide) (fun K hK => ?_)
                refine goes_ Try.func11 (by kernel_rfl) rfl #[.agg #[.int .i64 t505, .int .i64 t506, .int .i64 t507], .slice Ao67 y521.length co67] (by rfl) rfl rfl (by (try simp only [List.map_toArray, List.map_cons, List.map_nil]); first | done | rfl | (simp only [List.length_drop, List.length_take]; rfl)) ?_
                with_reducible refine (panel_Swing.calls k t505 t506 t507 _ _ y521 t524 t525 t526 t527 t528 t529 _ ?side1 ?side2 A11.out).mono ?_
                (case side1 => repeat (first | exact (Kd.R_reads' HO523.out).2.2 | (with_reducible refine Kd.C_alloc ?_ _) | (with_reducible refine Kd.C_drewN ?_ _) | (with_reducible refine Kd.C_drew ?_)))
                (case side2 => exact (Kd.R_reads' HO523.out).2.1)
                rintro e w68 ⟨rfl, hb⟩
                refine ⟨_, rfl, ?_⟩
                have n0_ := Aside0.mk (Kd.R_below (by (with_reducible repeat (first | apply Kd.R_alloc | apply Kd.R_drewN | apply Kd.R_drew)); exact HO523.out) hb)
                have n1_ := Aside0.mk (blk_below (g := gb509) (o := .cells #[.int .i64 t505, .int .i64 t506, .int .i64 t507] 23 (0, 0)) (by (with_reducible repeat (first | refine blk_drewN ?_ _ | refine blk_drew ?_ | refine blk_alloc ?_ _)); exact BK509.out) hb)
                have n2_ := Aside0.mk (blk_below (g := gb514) (o := .cells #[.int .i64 t510, .int .i64 t511, .int .i64 t512] 23 (0, 0)) (by (with_reducible repeat (first | refine blk_drewN ?_ _ | refine blk_drew ?_ | refine blk_alloc ?_ _)); exact BK514.out) hb)
                have n3_ := Aside0.mk (blk_below (g := gb519) (o := .cells #[.int .i64 t515, .int .i64 t516, .int .i64 t517] 23 (0, 0)) (by (with_reducible repeat (first | refine blk_drewN ?_ _ | refine blk_drew ?_ | refine blk_alloc ?_ _)); exact BK519.out) hb)
                have n4_ := Aside0.mk (blk_below (g := gb530) (o := .cells #[.int .i64 0, .int .i64 0, .int .i64 0] 23 (0, 0)) (by (with_reducible repeat (first | refine blk_drewN ?_ _ | refine blk_drew ?_ | refine blk_alloc ?_ _)); exact BK530.out) hb)
                have n5_ := Aside0.mk (below_step (by repeat (first | (with_reducible first | exact HB.out | apply below_alloc | apply pw_below_drewN | apply below_drew1 | refine below_set ?_ GE509.out | refine below_set ?_ GE514.out | refine below_set ?_ GE519.out | refine below_set ?_ GE530.out) | exact HB.out)) hb)
                clear HO523
                clear BK509
                clear BK514
                clear BK519
                clear BK530
                clear HB
                have HO523 := n0_
                have BK509 := n1_
                have BK514 := n2_
                have BK519 := n3_
                have BK530 := n4_
                have HB := n5_
                clear n0_ n1_ n2_ n3_ n4_ n5_
                (try clear hb)
                (try clear hb2)
                (try clear hk)
                (try clear hi)
                refine hK.out _ _ ⟨(blk_cell BK509.out 0).trans rfl, (blk_cell BK509.out 1).trans rfl, (blk_cell BK509.out 2).trans rfl⟩ (fun hHeld => ?_)
                clear hK K
                refine norm_ (a' := ?_) ?_ ?_
                rotate_left
                ·show Act.put _ (some 40) _ = _
                 simp only [Act.put, sA, sB, sC, i64_w, i32_w]
                 rfl
                refine pure_ (i := 5) (N := some 35) (v := ?_) (a' := ?_) #[X,X,X,X,X,X,Z,Z,Z,Z,X,Z,Z,Z,Z] rfl rfl (any_of HT_.out (by kernel_rfl)) (fun _ _ _ h => h) (Or.inl ⟨by rfl, ?_⟩) ?_ ?_
                rotate_left
                ·intro w'
                 go_simp
                 with_reducible rfl
                rotate_left
                ·simp only [Act.put, sA, sB, sC, i64_w, i32_w]
                 rfl
                refine pure_ (i := 6) (N := some 41) (v := ?_) (a' := ?_) #[X,X,X,X,X,X,X,Z,Z,Z,X,Z,Z,Z,Z] rfl rfl (any_of HT_.out (by kernel_rfl)) (fun _ _ _ h => h) (Or.inl ⟨by rfl, ?_⟩) ?_ ?_
                rotate_left
                ·intro w'
                 go_simp
                 with_reducible rfl
                rotate_left
                ·simp only [Act.put, sA, sB, sC, i64_w, i32_w]
                 rfl
                refine pure_ (i := 7) (N := some 42) (v := ?_) (a' := ?_) #[X,X,X,X,X,X,X,X,Z,Z,X,Z,Z,Z,Z] rfl rfl (any_of HT_.out (by kernel_rfl)) (fun _ _ _ h => h) (Or.inl ⟨by rfl, ?_⟩) ?_ ?_
                rotate_left
                ·intro w'
                 go_simp
                 with_reducible rfl
                rotate_left
                ·simp only [Act.put, sA, sB, sC, i64_w, i32_w]
                 rfl
                refine pure_ (i := 8) (N := some 43) (v := ?_) (a' := ?_) #[X,X,X,X,X,X,X,X,X,Z,X,Z,Z,Z,Z] rfl rfl (any_of HT_.out (by kernel_rfl)) (fun _ _ _ h => h) (Or.inl ⟨by rfl, ?_⟩) ?_ ?_
                rotate_left
                ·intro w'
                 go_simp
                 with_reducible rfl
                rotate_left
                ·simp only [Act.put, sA, sB, sC, i64_w, i32_w]
                 rfl
                refine pure_ (i := 9) (N := some 44) (v := ?_) (a' := ?_) #[X,X,X,X,X,X,X,X,X,X,X,Z,Z,Z,Z] rfl rfl (any_of HT_.out (by kernel_rfl)) (fun _ _ _ h => h) (Or.inl ⟨by rfl, ?_⟩) ?_ ?_
                rotate_left
                ·intro w'
                 go_simp
                 with_reducible rfl
                rotate_left
                ·simp only [Act.put, sA, sB, sC, i64_w, i32_w]
                 rfl
                exact norm_ (by simp only [putAll, Act.put, List.setIfInBounds_toArray, List.set_cons_zero, List.set_cons_succ]) (hCont (.slice Ao67 y521.length co67, gb530) _ ⟨hHeld, (by (with_reducible repeat (first | apply Kd.R_alloc | apply Kd.R_drewN | apply Kd.R_drew)); exact HO523.out), (by (with_reducible repeat (first | refine blk_drewN ?_ _ | refine blk_drew ?_ | refine blk_alloc ?_ _)); exact BK509.out), (by (with_reducible repeat (first | refine blk_drewN ?_ _ | refine blk_drew ?_ | refine blk_alloc ?_ _)); exact BK514.out), (by (with_reducible repeat (first | refine blk_drewN ?_ _ | refine blk_drew ?_ | refine blk_alloc ?_ _)); exact BK519.out), (by (with_reducible repeat (first | refine blk_drewN ?_ _ | refine blk_drew ?_ | refine blk_alloc ?_ _)); exact BK530.out), GW530.out, GE530.out, NB509_530.out, NB530_509.out, NB514_530.out, NB530_514.out, NB519_530.out, NB530_519.out, (by repeat (first | (with_reducible first | exact HB.out | apply below_alloc | apply pw_below_drewN | apply below_drew1 | refine below_set ?_ GE509.out | refine below_set ?_ GE514.out | refine below_set ?_ GE519.out | refine below_set ?_ GE530.out) | exact HB.out))⟩)
              ·skip
               refine box_step ?hg (N := 14) ?hd (cs := #[.int .i64 0, .int .i64 0, .int .i64 0]) (t := 23) ?hr ?_; (case hd => rfl); (case hg => rfl); (case hr => first | (go_simp; done) | (go_simp; rfl))
               intro gb530 hg w64 hbox hb
               have n0_ := Aside0.mk (blk_below (g := gb509) (o := .cells #[.int .i64 t505, .int .i64 t506, .int .i64 t507] 23 (0, 0)) (by (with_reducible repeat (first | refine blk_drewN ?_ _ | refine blk_drew ?_ | refine blk_alloc ?_ _)); exact BK509.out) hb)
               have n1_ := Aside0.mk (blk_below (g := gb514) (o := .cells #[.int .i64 t510, .int .i64 t511, .int .i64 t512] 23 (0, 0)) (by (with_reducible repeat (first | refine blk_drewN ?_ _ | refine blk_drew ?_ | refine blk_alloc ?_ _)); exact BK514.out) hb)
               have n2_ := Aside0.mk (blk_below (g := gb519) (o := .cells #[.int .i64 t515, .int .i64 t516, .int .i64 t517] 23 (0, 0)) (by (with_reducible repeat (first | refine blk_drewN ?_ _ | refine blk_drew ?_ | refine blk_alloc ?_ _)); exact BK519.out) hb)
               have n3_ := Aside0.mk (below_step (by repeat (first | (with_reducible first | exact HB.out | apply below_alloc | apply pw_below_drewN | apply below_drew1 | refine below_set ?_ GE509.out | refine below_set ?_ GE514.out | refine below_set ?_ GE519.out) | exact HB.out)) hb)
               have n4_ := Aside0.mk (hbox)
               have n5_ := Aside0.mk ((by rw [hg]; exact (below_size (by repeat (first | (with_reducible first | exact HB.out | apply below_alloc | apply pw_below_drewN | apply below_drew1 | refine below_set ?_ GE509.out | refine below_set ?_ GE514.out | refine below_set ?_ GE519.out) | exact HB.out))) : w.heap.size ≤ gb530))
               have n6_ := Aside0.mk ((by rw [hg]; exact (below_size (by repeat (first | (with_reducible first | exact HB.out | apply below_alloc | apply pw_below_drewN | apply below_drew1 | refine below_set ?_ GE509.out | refine below_set ?_ GE514.out | refine below_set ?_ GE519.out) | exact HB.out))) : w.heap.size ≤ gb530))
               have n7_ := Aside0.mk ((by rw [hg]; exact Nat.ne_of_lt (blk_lt (g := gb509) (o := .cells #[.int .i64 t505, .int .i64 t506, .int .i64 t507] 23 (0, 0)) (by (with_reducible repeat (first | refine blk_drewN ?_ _ | refine blk_drew ?_ | refine blk_alloc ?_ _)); exact BK509.out)) : gb509 ≠ gb530))
               have n8_ := Aside0.mk ((by rw [hg]; exact Nat.ne_of_gt (blk_lt (g := gb509) (o := .cells #[.int .i64 t505, .int .i64 t506, .int .i64 t507] 23 (0, 0)) (by (with_reducible repeat (first | refine blk_drewN ?_ _ | refine blk_drew ?_ | refine blk_alloc ?_ _)); exact BK509.out)) : gb530 ≠ gb509))
               have n9_ := Aside0.mk ((by rw [hg]; exact Nat.ne_of_lt (blk_lt (g := gb514) (o := .cells #[.int .i64 t510, .int .i64 t511, .int .i64 t512] 23 (0, 0)) (by (with_reducible repeat (first | refine blk_drewN ?_ _ | refine blk_drew ?_ | refine blk_alloc ?_ _)); exact BK514.out)) : gb514 ≠ gb530))
               have n10_ := Aside0.mk ((by rw [hg]; exact Nat.ne_of_gt (blk_lt (g := gb514) (o := .cells #[.int .i64 t510, .int .i64 t511, .int .i64 t512] 23 (0, 0)) (by (with_reducible repeat (first | refine blk_drewN ?_ _ | refine blk_drew ?_ | refine blk_alloc ?_ _)); exact BK514.out)) : gb530 ≠ gb514))
               have n11_ := Aside0.mk ((by rw [hg]; exact Nat.ne_of_lt (blk_lt (g := gb519) (o := .cells #[.int .i64 t515, .int .i64 t516, .int .i64 t517] 23 (0, 0)) (by (with_reducible repeat (first | refine blk_drewN ?_ _ | refine blk_drew ?_ | refine blk_alloc ?_ _)); exact BK519.out)) : gb519 ≠ gb530))
               have n12_ := Aside0.mk ((by rw [hg]; exact Nat.ne_of_gt (blk_lt (g := gb519) (o := .cells #[.int .i64 t515, .int .i64 t516, .int .i64 t517] 23 (0, 0)) (by (with_reducible repeat (first | refine blk_drewN ?_ _ | refine blk_drew ?_ | refine blk_alloc ?_ _)); exact BK519.out)) : gb530 ≠ gb519))
               clear BK509
               clear BK514
               clear BK519
               clear HB
               have BK509 := n0_
               have BK514 := n1_
               have BK519 := n2_
               have HB := n3_
               have BK530 := n4_
               have GW530 := n5_
               have GE530 := n6_
               have NB509_530 := n7_
               have NB530_509 := n8_
               have NB514_530 := n9_
               have NB530_514 := n10_
               have NB519_530 := n11_
               have NB530_519 := n12_
               clear n0_ n1_ n2_ n3_ n4_ n5_ n6_ n7_ n8_ n9_ n10_ n11_ n12_
               clear hb hbox hg
               refine hK.out _ _ ⟨(blk_cell BK509.out 0).trans rfl, (blk_cell BK509.out 1).trans rfl, (blk_cell BK509.out 2).trans rfl⟩ (fun hHeld => ?_)
               clear hK K
               refine norm_ (a' := ?_) ?_ ?_
               rotate_left
               ·show Act.put _ (some 14) _ = _
                simp only [Act.put, sA, sB, sC, i64_w, i32_w]
                rfl
               refine one_ (i := 3) (N := some 39) #[X,X,X,X,Z,Z,Z,Z,Z,Z,X,Z,Z,Z,Z] rfl rfl (one_of HT_.out (by kernel_rfl)) (by decide) (fun K hK => ?_)
               refine Kd.R_make_step (Kd.int .i64) _ 3 (by rfl) (N := 39) rfl 24 _ _ rfl t520 rfl rfl Try.underlying24 (.int .i64 0) 8 info3 rfl (by decide) (by omega) 0 (ok := fun _ => True) (okp := fun _ => True) rfl (fun _ hk => hk) trivial (of_decide_eq_true (by first | (with_reducible assumption) | assumption)) (Nat.le_trans (Nat.mul_le_mul_right _ (of_decide_eq_true (by first | (with_reducible assumption) | assumption) : t520.toNat ≤ 35184372088832)) (by omega)) (Below.refl _ _) (Nat.le_refl _) ?_
               intro v522 w65 ho66 hb hg_ hnew_
               clear hg_ hnew_
               (first | rw [← Ny521.out] at ho66 | (simp only [Int.reduceToNat] at ho66; rw [← Ny521.out] at ho66))
               have n0_ := Aside0.mk (Kd.R_lower ho66 (below_size (by repeat (first | (with_reducible first | exact HB.out | apply below_alloc | apply pw_below_drewN | apply below_drew1 | refine below_set ?_ GE509.out | refine below_set ?_ GE514.out | refine below_set ?_ GE519.out | refine below_set ?_ GE530.out) | exact HB.out))))
               have n1_ := Aside0.mk (blk_below (g := gb509) (o := .cells #[.int .i64 t505, .int .i64 t506, .int .i64 t507] 23 (0, 0)) (by (with_reducible repeat (first | refine blk_drewN ?_ _ | refine blk_drew ?_ | refine blk_alloc ?_ _)); exact BK509.out) hb)
               have n2_ := Aside0.mk (blk_below (g := gb514) (o := .cells #[.int .i64 t510, .int .i64 t511, .int .i64 t512] 23 (0, 0)) (by (with_reducible repeat (first | refine blk_drewN ?_ _ | refine blk_drew ?_ | refine blk_alloc ?_ _)); exact BK514.out) hb)
               have n3_ := Aside0.mk (blk_below (g := gb519) (o := .cells #[.int .i64 t515, .int .i64 t516, .int .i64 t517] 23 (0, 0)) (by (with_reducible repeat (first | refine blk_drewN ?_ _ | refine blk_drew ?_ | refine blk_alloc ?_ _)); exact BK519.out) hb)
               have n4_ := Aside0.mk (blk_below (g := gb530) (o := .cells #[.int .i64 0, .int .i64 0, .int .i64 0] 23 (0, 0)) (by (with_reducible repeat (first | refine blk_drewN ?_ _ | refine blk_drew ?_ | refine blk_alloc ?_ _)); exact BK530.out) hb)
               have n5_ := Aside0.mk (below_step (by repeat (first | (with_reducible first | exact HB.out | apply below_alloc | apply pw_below_drewN | apply below_drew1 | refine below_set ?_ GE509.out | refine below_set ?_ GE514.out | refine below_set ?_ GE519.out | refine below_set ?_ GE530.out) | exact HB.out)) hb)
               clear BK509
               clear BK514
               clear BK519
               clear BK530
               clear HB
               have HO523 := n0_
               have BK509 := n1_
               have BK514 := n2_
               have BK519 := n3_
               have BK530 := n4_
               have HB := n5_
               clear n0_ n1_ n2_ n3_ n4_ n5_
               clear hb ho66
               obtain ⟨Ao67, co67, eo67⟩ := Kd.R_slice HO523.out
               (first | subst eo67 | (injection eo67 with f1_ f2_ f3_; have f4_ := f1_.symm; have f5_ := f3_.symm; clear f1_ f2_ f3_; subst f4_; subst f5_))
               refine hK.out _ _ ⟨(blk_cell BK509.out 0).trans rfl, (blk_cell BK509.out 1).trans rfl, (blk_cell BK509.out 2).trans rfl⟩ (fun hHeld => ?_)
               clear hK K
               refine norm_ (a' := ?_) ?_ ?_
               rotate_left
               ·show Act.put _ (some 39) _ = _
                simp only [Act.put, sA, sB, sC, i64_w, i32_w]
                rfl
               refine one_ (i := 4) (N := some 40) #[X,X,X,X,X,Z,Z,Z,Z,Z,X,Z,Z,Z,Z] rfl rfl (one_of HT_.out (by kernel_rfl)) (by decide) (fun K hK => ?_)
               refine goes_ Try.func11 (by kernel_rfl) rfl #[.agg #[.int .i64 t505, .int .i64 t506, .int .i64 t507], .slice Ao67 y521.length co67] (by rfl) rfl rfl (by (try simp only [List.map_toArray, List.map_cons, List.map_nil]); first | done | rfl | (simp only [List.length_drop, List.length_take]; rfl)) ?_
               with_reducible refine (panel_Swing.calls k t505 t506 t507 _ _ y521 t524 t525 t526 t527 t528 t529 _ ?side1 ?side2 A11.out).mono ?_
               (case side1 => repeat (first | exact (Kd.R_reads' HO523.out).2.2 | (with_reducible refine Kd.C_alloc ?_ _) | (with_reducible refine Kd.C_drewN ?_ _) | (with_reducible refine Kd.C_drew ?_)))
               (case side2 => exact (Kd.R_reads' HO523.out).2.1)
               rintro e w68 ⟨rfl, hb⟩
               refine ⟨_, rfl, ?_⟩
               have n0_ := Aside0.mk (Kd.R_below (by (with_reducible repeat (first | apply Kd.R_alloc | apply Kd.R_drewN | apply Kd.R_drew)); exact HO523.out) hb)
               have n1_ := Aside0.mk (blk_below (g := gb509) (o := .cells #[.int .i64 t505, .int .i64 t506, .int .i64 t507] 23 (0, 0)) (by (with_reducible repeat (first | refine blk_drewN ?_ _ | refine blk_drew ?_ | refine blk_alloc ?_ _)); exact BK509.out) hb)
               have n2_ := Aside0.mk (blk_below (g := gb514) (o := .cells #[.int .i64 t510, .int .i64 t511, .int .i64 t512] 23 (0, 0)) (by (with_reducible repeat (first | refine blk_drewN ?_ _ | refine blk_drew ?_ | refine blk_alloc ?_ _)); exact BK514.out) hb)
               have n3_ := Aside0.mk (blk_below (g := gb519) (o := .cells #[.int .i64 t515, .int .i64 t516, .int .i64 t517] 23 (0, 0)) (by (with_reducible repeat (first | refine blk_drewN ?_ _ | refine blk_drew ?_ | refine blk_alloc ?_ _)); exact BK519.out) hb)
               have n4_ := Aside0.mk (blk_below (g := gb530) (o := .cells #[.int .i64 0, .int .i64 0, .int .i64 0] 23 (0, 0)) (by (with_reducible repeat (first | refine blk_drewN ?_ _ | refine blk_drew ?_ | refine blk_alloc ?_ _)); exact BK530.out) hb)
               have n5_ := Aside0.mk (below_step (by repeat (first | (with_reducible first | exact HB.out | apply below_alloc | apply pw_below_drewN | apply below_drew1 | refine below_set ?_ GE509.out | refine below_set ?_ GE514.out | refine below_set ?_ GE519.out | refine below_set ?_ GE530.out) | exact HB.out)) hb)
               clear HO523
               clear BK509
               clear BK514
               clear BK519
               clear BK530
               clear HB
               have HO523 := n0_
               have BK509 := n1_
               have BK514 := n2_
               have BK519 := n3_
               have BK530 := n4_
               have HB := n5_
               clear n0_ n1_ n2_ n3_ n4_ n5_
               (try clear hb)
               (try clear hb2)
               (try clear hk)
               (try clear hi)
               refine hK.out _ _ ⟨(blk_cell BK509.out 0).trans rfl, (blk_cell BK509.out 1).trans rfl, (blk_cell BK509.out 2).trans rfl⟩ (fun hHeld => ?_)
               clear hK K
               refine norm_ (a' := ?_) ?_ ?_
               rotate_left
               ·show Act.put _ (some 40) _ = _
                simp only [Act.put, sA, sB, sC, i64_w, i32_w]
                rfl
               refine pure_ (i := 5) (N := some 35) (v := ?_) (a' := ?_) #[X,X,X,X,X,X,Z,Z,Z,Z,X,Z,Z,Z,Z] rfl rfl (any_of HT_.out (by kernel_rfl)) (fun _ _ _ h => h) (Or.inl ⟨by rfl, ?_⟩) ?_ ?_
               rotate_left
               ·intro w'
                go_simp
                with_reducible rfl
               rotate_left
               ·simp only [Act.put, sA, sB, sC, i64_w, i32_w]
                rfl
               refine pure_ (i := 6) (N := some 41) (v := ?_) (a' := ?_) #[X,X,X,X,X,X,X,Z,Z,Z,X,Z,Z,Z,Z] rfl rfl (any_of HT_.out (by kernel_rfl)) (fun _ _ _ h => h) (Or.inl ⟨by rfl, ?_⟩) ?_ ?_
               rotate_left
               ·intro w'
                go_simp
                with_reducible rfl
               rotate_left
               ·simp only [Act.put, sA, sB, sC, i64_w, i32_w]
                rfl
               refine pure_ (i := 7) (N := some 42) (v := ?_) (a' := ?_) #[X,X,X,X,X,X,X,X,Z,Z,X,Z,Z,Z,Z] rfl rfl (any_of HT_.out (by kernel_rfl)) (fun _ _ _ h => h) (Or.inl ⟨by rfl, ?_⟩) ?_ ?_
               rotate_left
               ·intro w'
                go_simp
                with_reducible rfl
               rotate_left
               ·simp only [Act.put, sA, sB, sC, i64_w, i32_w]
                rfl
               refine pure_ (i := 8) (N := some 43) (v := ?_) (a' := ?_) #[X,X,X,X,X,X,X,X,X,Z,X,Z,Z,Z,Z] rfl rfl (any_of HT_.out (by kernel_rfl)) (fun _ _ _ h => h) (Or.inl ⟨by rfl, ?_⟩) ?_ ?_
               rotate_left
               ·intro w'
                go_simp
                with_reducible rfl
               rotate_left
               ·simp only [Act.put, sA, sB, sC, i64_w, i32_w]
                rfl
               refine pure_ (i := 9) (N := some 44) (v := ?_) (a' := ?_) #[X,X,X,X,X,X,X,X,X,X,X,Z,Z,Z,Z] rfl rfl (any_of HT_.out (by kernel_rfl)) (fun _ _ _ h => h) (Or.inl ⟨by rfl, ?_⟩) ?_ ?_
               rotate_left
               ·intro w'
                go_simp
                with_reducible rfl
               rotate_left
               ·simp only [Act.put, sA, sB, sC, i64_w, i32_w]
                rfl
               exact norm_ (by simp only [putAll, Act.put, List.setIfInBounds_toArray, List.set_cons_zero, List.set_cons_succ]) (hCont (.slice Ao67 y521.length co67, gb530) _ ⟨hHeld, (by (with_reducible repeat (first | apply Kd.R_alloc | apply Kd.R_drewN | apply Kd.R_drew)); exact HO523.out), (by (with_reducible repeat (first | refine blk_drewN ?_ _ | refine blk_drew ?_ | refine blk_alloc ?_ _)); exact BK509.out), (by (with_reducible repeat (first | refine blk_drewN ?_ _ | refine blk_drew ?_ | refine blk_alloc ?_ _)); exact BK514.out), (by (with_reducible repeat (first | refine blk_drewN ?_ _ | refine blk_drew ?_ | refine blk_alloc ?_ _)); exact BK519.out), (by (with_reducible repeat (first | refine blk_drewN ?_ _ | refine blk_drew ?_ | refine blk_alloc ?_ _)); exact BK530.out), GW530.out, GE530.out, NB509_530.out, NB530_509.out, NB514_530.out, NB530_514.out, NB519_530.out, NB530_519.out, (by repeat (first | (with_reducible first | exact HB.out | apply below_alloc | apply pw_below_drewN | apply below_drew1 | refine below_set ?_ GE509.out | refine below_set ?_ GE514.out | refine below_set ?_ GE519.out | refine below_set ?_ GE530.out) | exact HB.out))⟩)
             ·skip
              refine box_step ?hg (N := 14) ?hd (cs := #[.int .i64 0, .int .i64 0, .int .i64 0]) (t := 23) ?hr ?_; (case hd => rfl); (case hg => rfl); (case hr => first | (go_simp; done) | (go_simp; rfl))
              intro gb530 hg w64 hbox hb
              have n0_ := Aside0.mk (blk_below (g := gb509) (o := .cells #[.int .i64 t505, .int .i64 t506, .int .i64 t507] 23 (0, 0)) (by (with_reducible repeat (first | refine blk_drewN ?_ _ | refine blk_drew ?_ | refine blk_alloc ?_ _)); exact BK509.out) hb)
              have n1_ := Aside0.mk (blk_below (g := gb514) (o := .cells #[.int .i64 t510, .int .i64 t511, .int .i64 t512] 23 (0, 0)) (by (with_reducible repeat (first | refine blk_drewN ?_ _ | refine blk_drew ?_ | refine blk_alloc ?_ _)); exact BK514.out) hb)
              have n2_ := Aside0.mk (blk_below (g := gb519) (o := .cells #[.int .i64 t515, .int .i64 t516, .int .i64 t517] 23 (0, 0)) (by (with_reducible repeat (first | refine blk_drewN ?_ _ | refine blk_drew ?_ | refine blk_alloc ?_ _)); exact BK519.out) hb)
              have n3_ := Aside0.mk (below_step (by repeat (first | (with_reducible first | exact HB.out | apply below_alloc | apply pw_below_drewN | apply below_drew1 | refine below_set ?_ GE509.out | refine below_set ?_ GE514.out | refine below_set ?_ GE519.out) | exact HB.out)) hb)
              have n4_ := Aside0.mk (hbox)
              have n5_ := Aside0.mk ((by rw [hg]; exact (below_size (by repeat (first | (with_reducible first | exact HB.out | apply below_alloc | apply pw_below_drewN | apply below_drew1 | refine below_set ?_ GE509.out | refine below_set ?_ GE514.out | refine below_set ?_ GE519.out) | exact HB.out))) : w.heap.size ≤ gb530))
              have n6_ := Aside0.mk ((by rw [hg]; exact (below_size (by repeat (first | (with_reducible first | exact HB.out | apply below_alloc | apply pw_below_drewN | apply below_drew1 | refine below_set ?_ GE509.out | refine below_set ?_ GE514.out | refine below_set ?_ GE519.out) | exact HB.out))) : w.heap.size ≤ gb530))
              have n7_ := Aside0.mk ((by rw [hg]; exact Nat.ne_of_lt (blk_lt (g := gb509) (o := .cells #[.int .i64 t505, .int .i64 t506, .int .i64 t507] 23 (0, 0)) (by (with_reducible repeat (first | refine blk_drewN ?_ _ | refine blk_drew ?_ | refine blk_alloc ?_ _)); exact BK509.out)) : gb509 ≠ gb530))
              have n8_ := Aside0.mk ((by rw [hg]; exact Nat.ne_of_gt (blk_lt (g := gb509) (o := .cells #[.int .i64 t505, .int .i64 t506, .int .i64 t507] 23 (0, 0)) (by (with_reducible repeat (first | refine blk_drewN ?_ _ | refine blk_drew ?_ | refine blk_alloc ?_ _)); exact BK509.out)) : gb530 ≠ gb509))
              have n9_ := Aside0.mk ((by rw [hg]; exact Nat.ne_of_lt (blk_lt (g := gb514) (o := .cells #[.int .i64 t510, .int .i64 t511, .int .i64 t512] 23 (0, 0)) (by (with_reducible repeat (first | refine blk_drewN ?_ _ | refine blk_drew ?_ | refine blk_alloc ?_ _)); exact BK514.out)) : gb514 ≠ gb530))
              have n10_ := Aside0.mk ((by rw [hg]; exact Nat.ne_of_gt (blk_lt (g := gb514) (o := .cells #[.int .i64 t510, .int .i64 t511, .int .i64 t512] 23 (0, 0)) (by (with_reducible repeat (first | refine blk_drewN ?_ _ | refine blk_drew ?_ | refine blk_alloc ?_ _)); exact BK514.out)) : gb530 ≠ gb514))
              have n11_ := Aside0.mk ((by rw [hg]; exact Nat.ne_of_lt (blk_lt (g := gb519) (o := .cells #[.int .i64 t515, .int .i64 t516, .int .i64 t517] 23 (0, 0)) (by (with_reducible repeat (first | refine blk_drewN ?_ _ | refine blk_drew ?_ | refine blk_alloc ?_ _)); exact BK519.out)) : gb519 ≠ gb530))
              have n12_ := Aside0.mk ((by rw [hg]; exact Nat.ne_of_gt (blk_lt (g := gb519) (o := .cells #[.int .i64 t515, .int .i64 t516, .int .i64 t517] 23 (0, 0)) (by (with_reducible repeat (first | refine blk_drewN ?_ _ | refine blk_drew ?_ | refine blk_alloc ?_ _)); exact BK519.out)) : gb530 ≠ gb519))
              clear BK509
              clear BK514
              clear BK519
              clear HB
              have BK509 := n0_
              have BK514 := n1_
              have BK519 := n2_
              have HB := n3_
              have BK530 := n4_
              have GW530 := n5_
              have GE530 := n6_
              have NB509_530 := n7_
              have NB530_509 := n8_
              have NB514_530 := n9_
              have NB530_514 := n10_
              have NB519_530 := n11_
              have NB530_519 := n12_
              clear n0_ n1_ n2_ n3_ n4_ n5_ n6_ n7_ n8_ n9_ n10_ n11_ n12_
              clear hb hbox hg
              refine hK.out _ _ ⟨(blk_cell BK509.out 0).trans rfl, (blk_cell BK509.out 1).trans rfl, (blk_cell BK509.out 2).trans rfl⟩ (fun hHeld => ?_)
              clear hK K
              refine norm_ (a' := ?_) ?_ ?_
              rotate_left
              ·show Act.put _ (some 14) _ = _
               simp only [Act.put, sA, sB, sC, i64_w, i32_w]
               rfl
              refine one_ (i := 2) (N := some 38) #[X,X,X,Z,Z,Z,Z,Z,Z,Z,X,Z,Z,Z,Z] rfl rfl (one_of HT_.out (by kernel_rfl)) (by decide) (fun K hK => ?_)
              refine goes_ Try.func26 (by kernel_rfl) rfl #[.int .i64 a2, .int .i64 60] (by rfl) rfl rfl (by (try simp only [List.map_toArray, List.map_cons, List.map_nil]); first | done | rfl | (simp only [List.length_drop, List.length_take]; rfl)) ?_
              with_reducible refine (tipstaffkit_Mod.calls a2 60 t520 _ A8.out).mono ?_
              rintro e w' ⟨rfl, ⟨nd, rfl⟩⟩
              refine ⟨_, rfl, ?_⟩
              refine hK.out _ _ ⟨(blk_cell BK509.out 0).trans rfl, (blk_cell BK509.out 1).trans rfl, (blk_cell BK509.out 2).trans rfl⟩ (fun hHeld => ?_)
              clear hK K
              refine norm_ (a' := ?_) ?_ ?_
              rotate_left
              ·show Act.put _ (some 38) _ = _
               simp only [Act.put, sA, sB, sC, i64_w, i32_w]
               rfl
              refine one_ (i := 3) (N := some 39) #[X,X,X,X,Z,Z,Z,Z,Z,Z,X,Z,Z,Z,Z] rfl rfl (one_of HT_.out (by kernel_rfl)) (by decide) (fun K hK => ?_)
              refine Kd.R_make_step (Kd.int .i64) _ 3 (by rfl) (N := 39) rfl 24 _ _ rfl t520 rfl rfl Try.underlying24 (.int .i64 0) 8 info3 rfl (by decide) (by omega) 0 (ok := fun _ => True) (okp := fun _ => True) rfl (fun _ hk => hk) trivial (of_decide_eq_true (by first | (with_reducible assumption) | assumption)) (Nat.le_trans (Nat.mul_le_mul_right _ (of_decide_eq_true (by first | (with_reducible assumption) | assumption) : t520.toNat ≤ 35184372088832)) (by omega)) (Below.refl _ _) (Nat.le_refl _) ?_
              intro v522 w65 ho66 hb hg_ hnew_
              clear hg_ hnew_
              (first | rw [← Ny521.out] at ho66 | (simp only [Int.reduceToNat] at ho66; rw [← Ny521.out] at ho66))
              have n0_ := Aside0.mk (Kd.R_lower ho66 (below_size (by repeat (first | (with_reducible first | exact HB.out | apply below_alloc | apply pw_below_drewN | apply below_drew1 | refine below_set ?_ GE509.out | refine below_set ?_ GE514.out | refine below_set ?_ GE519.out | refine below_set ?_ GE530.out) | exact HB.out))))
              have n1_ := Aside0.mk (blk_below (g := gb509) (o := .cells #[.int .i64 t505, .int .i64 t506, .int .i64 t507] 23 (0, 0)) (by (with_reducible repeat (first | refine blk_drewN ?_ _ | refine blk_drew ?_ | refine blk_alloc ?_ _)); exact BK509.out) hb)
              have n2_ := Aside0.mk (blk_below (g := gb514) (o := .cells #[.int .i64 t510, .int .i64 t511, .int .i64 t512] 23 (0, 0)) (by (with_reducible repeat (first | refine blk_drewN ?_ _ | refine blk_drew ?_ | refine blk_alloc ?_ _)); exact BK514.out) hb)
              have n3_ := Aside0.mk (blk_below (g := gb519) (o := .cells #[.int .i64 t515, .int .i64 t516, .int .i64 t517] 23 (0, 0)) (by (with_reducible repeat (first | refine blk_drewN ?_ _ | refine blk_drew ?_ | refine blk_alloc ?_ _)); exact BK519.out) hb)
              have n4_ := Aside0.mk (blk_below (g := gb530) (o := .cells #[.int .i64 0, .int .i64 0, .int .i64 0] 23 (0, 0)) (by (with_reducible repeat (first | refine blk_drewN ?_ _ | refine blk_drew ?_ | refine blk_alloc ?_ _)); exact BK530.out) hb)
              have n5_ := Aside0.mk (below_step (by repeat (first | (with_reducible first | exact HB.out | apply below_alloc | apply pw_below_drewN | apply below_drew1 | refine below_set ?_ GE509.out | refine below_set ?_ GE514.out | refine below_set ?_ GE519.out | refine below_set ?_ GE530.out) | exact HB.out)) hb)
              clear BK509
              clear BK514
              clear BK519
              clear BK530
              clear HB
              have HO523 := n0_
              have BK509 := n1_
              have BK514 := n2_
              have BK519 := n3_
              have BK530 := n4_
              have HB := n5_
              clear n0_ n1_ n2_ n3_ n4_ n5_
              clear hb ho66
              obtain ⟨Ao67, co67, eo67⟩ := Kd.R_slice HO523.out
              (first | subst eo67 | (injection eo67 with f1_ f2_ f3_; have f4_ := f1_.symm; have f5_ := f3_.symm; clear f1_ f2_ f3_; subst f4_; subst f5_))
              refine hK.out _ _ ⟨(blk_cell BK509.out 0).trans rfl, (blk_cell BK509.out 1).trans rfl, (blk_cell BK509.out 2).trans rfl⟩ (fun hHeld => ?_)
              clear hK K
              refine norm_ (a' := ?_) ?_ ?_
              rotate_left
              ·show Act.put _ (some 39) _ = _
               simp only [Act.put, sA, sB, sC, i64_w, i32_w]
               rfl
              refine one_ (i := 4) (N := some 40) #[X,X,X,X,X,Z,Z,Z,Z,Z,X,Z,Z,Z,Z] rfl rfl (one_of HT_.out (by kernel_rfl)) (by decide) (fun K hK => ?_)
              refine goes_ Try.func11 (by kernel_rfl) rfl #[.agg #[.int .i64 t505, .int .i64 t506, .int .i64 t507], .slice Ao67 y521.length co67] (by rfl) rfl rfl (by (try simp only [List.map_toArray, List.map_cons, List.map_nil]); first | done | rfl | (simp only [List.length_drop, List.length_take]; rfl)) ?_
              with_reducible refine (panel_Swing.calls k t505 t506 t507 _ _ y521 t524 t525 t526 t527 t528 t529 _ ?side1 ?side2 A11.out).mono ?_
              (case side1 => repeat (first | exact (Kd.R_reads' HO523.out).2.2 | (with_reducible refine Kd.C_alloc ?_ _) | (with_reducible refine Kd.C_drewN ?_ _) | (with_reducible refine Kd.C_drew ?_)))
              (case side2 => exact (Kd.R_reads' HO523.out).2.1)
              rintro e w68 ⟨rfl, hb⟩
              refine ⟨_, rfl, ?_⟩
              have n0_ := Aside0.mk (Kd.R_below (by (with_reducible repeat (first | apply Kd.R_alloc | apply Kd.R_drewN | apply Kd.R_drew)); exact HO523.out) hb)
              have n1_ := Aside0.mk (blk_below (g := gb509) (o := .cells #[.int .i64 t505, .int .i64 t506, .int .i64 t507] 23 (0, 0)) (by (with_reducible repeat (first | refine blk_drewN ?_ _ | refine blk_drew ?_ | refine blk_alloc ?_ _)); exact BK509.out) hb)
              have n2_ := Aside0.mk (blk_below (g := gb514) (o := .cells #[.int .i64 t510, .int .i64 t511, .int .i64 t512] 23 (0, 0)) (by (with_reducible repeat (first | refine blk_drewN ?_ _ | refine blk_drew ?_ | refine blk_alloc ?_ _)); exact BK514.out) hb)
              have n3_ := Aside0.mk (blk_below (g := gb519) (o := .cells #[.int .i64 t515, .int .i64 t516, .int .i64 t517] 23 (0, 0)) (by (with_reducible repeat (first | refine blk_drewN ?_ _ | refine blk_drew ?_ | refine blk_alloc ?_ _)); exact BK519.out) hb)
              have n4_ := Aside0.mk (blk_below (g := gb530) (o := .cells #[.int .i64 0, .int .i64 0, .int .i64 0] 23 (0, 0)) (by (with_reducible repeat (first | refine blk_drewN ?_ _ | refine blk_drew ?_ | refine blk_alloc ?_ _)); exact BK530.out) hb)
              have n5_ := Aside0.mk (below_step (by repeat (first | (with_reducible first | exact HB.out | apply below_alloc | apply pw_below_drewN | apply below_drew1 | refine below_set ?_ GE509.out | refine below_set ?_ GE514.out | refine below_set ?_ GE519.out | refine below_set ?_ GE530.out) | exact HB.out)) hb)
              clear HO523
              clear BK509
              clear BK514
              clear BK519
              clear BK530
              clear HB
              have HO523 := n0_
              have BK509 := n1_
              have BK514 := n2_
              have BK519 := n3_
              have BK530 := n4_
              have HB := n5_
              clear n0_ n1_ n2_ n3_ n4_ n5_
              (try clear hb)
              (try clear hb2)
              (try clear hk)
              (try clear hi)
              refine hK.out _ _ ⟨(blk_cell BK509.out 0).trans rfl, (blk_cell BK509.out 1).trans rfl, (blk_cell BK509.out 2).trans rfl⟩ (fun hHeld => ?_)
              clear hK K
              refine norm_ (a' := ?_) ?_ ?_
              rotate_left
              ·show Act.put _ (some 40) _ = _
               simp only [Act.put, sA, sB, sC, i64_w, i32_w]
               rfl
              refine pure_ (i := 5) (N := some 35) (v := ?_) (a' := ?_) #[X,X,X,X,X,X,Z,Z,Z,Z,X,Z,Z,Z,Z] rfl rfl (any_of HT_.out (by kernel_rfl)) (fun _ _ _ h => h) (Or.inl ⟨by rfl, ?_⟩) ?_ ?_
              rotate_left
              ·intro w'
               go_simp
               with_reducible rfl
              rotate_left
              ·simp only [Act.put, sA, sB, sC, i64_w, i32_w]
               rfl
              refine pure_ (i := 6) (N := some 41) (v := ?_) (a' := ?_) #[X,X,X,X,X,X,X,Z,Z,Z,X,Z,Z,Z,Z] rfl rfl (any_of HT_.out (by kernel_rfl)) (fun _ _ _ h => h) (Or.inl ⟨by rfl, ?_⟩) ?_ ?_
              rotate_left
              ·intro w'
               go_simp
               with_reducible rfl
              rotate_left
              ·simp only [Act.put, sA, sB, sC, i64_w, i32_w]
               rfl
              refine pure_ (i := 7) (N := some 42) (v := ?_) (a' := ?_) #[X,X,X,X,X,X,X,X,Z,Z,X,Z,Z,Z,Z] rfl rfl (any_of HT_.out (by kernel_rfl)) (fun _ _ _ h => h) (Or.inl ⟨by rfl, ?_⟩) ?_ ?_
              rotate_left
              ·intro w'
               go_simp
               with_reducible rfl
              rotate_left
              ·simp only [Act.put, sA, sB, sC, i64_w, i32_w]
               rfl
              refine pure_ (i := 8) (N := some 43) (v := ?_) (a' := ?_) #[X,X,X,X,X,X,X,X,X,Z,X,Z,Z,Z,Z] rfl rfl (any_of HT_.out (by kernel_rfl)) (fun _ _ _ h => h) (Or.inl ⟨by rfl, ?_⟩) ?_ ?_
              rotate_left
              ·intro w'
               go_simp
               with_reducible rfl
              rotate_left
              ·simp only [Act.put, sA, sB, sC, i64_w, i32_w]
               rfl
              refine pure_ (i := 9) (N := some 44) (v := ?_) (a' := ?_) #[X,X,X,X,X,X,X,X,X,X,X,Z,Z,Z,Z] rfl rfl (any_of HT_.out (by kernel_rfl)) (fun _ _ _ h => h) (Or.inl ⟨by rfl, ?_⟩) ?_ ?_
              rotate_left
              ·intro w'
               go_simp
               with_reducible rfl
              rotate_left
              ·simp only [Act.put, sA, sB, sC, i64_w, i32_w]
               rfl
              exact norm_ (by simp only [putAll, Act.put, List.setIfInBounds_toArray, List.set_cons_zero, List.set_cons_succ]) (hCont (.slice Ao67 y521.length co67, gb530) _ ⟨hHeld, (by (with_reducible repeat (first | apply Kd.R_alloc | apply Kd.R_drewN | apply Kd.R_drew)); exact HO523.out), (by (with_reducible repeat (first | refine blk_drewN ?_ _ | refine blk_drew ?_ | refine blk_alloc ?_ _)); exact BK509.out), (by (with_reducible repeat (first | refine blk_drewN ?_ _ | refine blk_drew ?_ | refine blk_alloc ?_ _)); exact BK514.out), (by (with_reducible repeat (first | refine blk_drewN ?_ _ | refine blk_drew ?_ | refine blk_alloc ?_ _)); exact BK519.out), (by (with_reducible repeat (first | refine blk_drewN ?_ _ | refine blk_drew ?_ | refine blk_alloc ?_ _)); exact BK530.out), GW530.out, GE530.out, NB509_530.out, NB530_509.out, NB514_530.out, NB530_514.out, NB519_530.out, NB530_519.out, (by repeat (first | (with_reducible first | exact HB.out | apply below_alloc | apply pw_below_drewN | apply below_drew1 | refine below_set ?_ GE509.out | refine below_set ?_ GE514.out | refine below_set ?_ GE519.out | refine below_set ?_ GE530.out) | exact HB.out))⟩)
            rintro ⟨v522, gb530⟩ w69 ⟨hS_, h0_, h1_, h2_, h3_, h4_, h5_, h6_, h7_, h8_, h9_, h10_, h11_, h12_, h13_⟩
            have n0_ : Aside0 (Kd.R (Kd.int .i64) 3 w69 w.heap.size (fun _ => True) v522 y521) := ⟨h0_⟩
            have n1_ : Aside0 (w69.heap[gb509]? = some (.cells #[.int .i64 t505, .int .i64 t506, .int .i64 t507] 23 (0, 0))) := ⟨h1_⟩
            have n2_ : Aside0 (w69.heap[gb514]? = some (.cells #[.int .i64 t510, .int .i64 t511, .int .i64 t512] 23 (0, 0))) := ⟨h2_⟩
            have n3_ : Aside0 (w69.heap[gb519]? = some (.cells #[.int .i64 t515, .int .i64 t516, .int .i64 t517] 23 (0, 0))) := ⟨h3_⟩
            have n4_ : Aside0 (w69.heap[gb530]? = some (.cells #[.int .i64 0, .int .i64 0, .int .i64 0] 23 (0, 0))) := ⟨h4_⟩
            have n5_ : Aside0 (w.heap.size ≤ gb530) := ⟨h5_⟩
            have n6_ : Aside0 (w.heap.size ≤ gb530) := ⟨h6_⟩
            have n7_ : Aside0 (gb509 ≠ gb530) := ⟨h7_⟩
            have n8_ : Aside0 (gb530 ≠ gb509) := ⟨h8_⟩
            have n9_ : Aside0 (gb514 ≠ gb530) := ⟨h9_⟩
            have n10_ : Aside0 (gb530 ≠ gb514) := ⟨h10_⟩
            have n11_ : Aside0 (gb519 ≠ gb530) := ⟨h11_⟩
            have n12_ : Aside0 (gb530 ≠ gb519) := ⟨h12_⟩
            have n13_ : Aside0 (Below w.heap.size w w69) := ⟨h13_⟩
            clear BK509
            clear BK514
            clear BK519
            clear HB
            clear h0_ h1_ h2_ h3_ h4_ h5_ h6_ h7_ h8_ h9_ h10_ h11_ h12_ h13_
            have HO523 := n0_
            have BK509 := n1_
            have BK514 := n2_
            have BK519 := n3_
            have BK530 := n4_
            have GW530 := n5_
            have GE530 := n6_
            have NB509_530 := n7_
            have NB530_509 := n8_
            have NB514_530 := n9_
            have NB530_514 := n10_
            have NB519_530 := n11_
            have NB530_519 := n12_
            have HB := n13_
            clear n0_ n1_ n2_ n3_ n4_ n5_ n6_ n7_ n8_ n9_ n10_ n11_ n12_ n13_
            have hHeld : w69.cell? ⟨gb509, 0, none⟩ = some (.int .i64 t505) ∧ w69.cell? ⟨gb509, 1, none⟩ = some (.int .i64 t506) ∧ w69.cell? ⟨gb509, 2, none⟩ = some (.int .i64 t507) := hS_
            refine norm_ (a' := ?_) ?_ ?_
            rotate_left
            ·simp only [putAll, Act.put, List.setIfInBounds_toArray, List.set_cons_zero, List.set_cons_succ]
             rfl
            refine one_ (i := 11) (N := none) #[X,X,X,X,X,X,X,X,X,X,X,X,Z,Z,Z] rfl rfl (one_of HT_.out (by kernel_rfl)) (by decide) (fun K hK => ?_)
            have hs70 : w69.cell? ⟨gb530, 0, none⟩ = some (.int .i64 0) := (blk_cell BK530.out 0).trans rfl
            have hfs70 := blk_frozen BK530.out 0
            have hns70_0 := NB509_530.out
            have hns70_1 := NB514_530.out
            have hns70_2 := NB519_530.out
            have hms70_0 := NB530_509.out
            have hms70_1 := NB530_514.out
            have hms70_2 := NB530_519.out
            have hs71 : w69.cell? ⟨gb530, 1, none⟩ = some (.int .i64 0) := (blk_cell BK530.out 1).trans rfl
            have hfs71 := blk_frozen BK530.out 1
            have hns71_0 := NB509_530.out
            have hns71_1 := NB514_530.out
            have hns71_2 := NB519_530.out
            have hms71_0 := NB530_509.out
            have hms71_1 := NB530_514.out
            have hms71_2 := NB530_519.out
            have hs72 : w69.cell? ⟨gb530, 2, none⟩ = some (.int .i64 0) := (blk_cell BK530.out 2).trans rfl
            have hfs72 := blk_frozen BK530.out 2
            have hns72_0 := NB509_530.out
            have hns72_1 := NB514_530.out
            have hns72_2 := NB519_530.out
            have hms72_0 := NB530_509.out
            have hms72_1 := NB530_514.out
            have hms72_2 := NB530_519.out
            refine skip_ (w1 := ?_) (by rfl) rfl ?_ ?_
            rotate_left
            ·go_simp
             rfl
            refine hK.out _ _ ⟨((cell_far (p := ⟨gb530, _, none⟩) NB509_530.out _).trans (((cell_far (p := ⟨gb530, _, none⟩) NB509_530.out _).trans (((cell_far (p := ⟨gb530, _, none⟩) NB509_530.out _).trans (hHeld.1)))))), ((cell_far (p := ⟨gb530, _, none⟩) NB509_530.out _).trans (((cell_far (p := ⟨gb530, _, none⟩) NB509_530.out _).trans (((cell_far (p := ⟨gb530, _, none⟩) NB509_530.out _).trans (hHeld.2.1)))))), ((cell_far (p := ⟨gb530, _, none⟩) NB509_530.out _).trans (((cell_far (p := ⟨gb530, _, none⟩) NB509_530.out _).trans (((cell_far (p := ⟨gb530, _, none⟩) NB509_530.out _).trans (hHeld.2.2))))))⟩ (fun hHeld => ?_)
            clear hK K
            refine pure_ (i := 12) (N := some 15) (v := ?_) (a' := ?_) #[X,X,X,X,X,X,X,X,X,X,X,X,X,Z,Z] rfl rfl (any_of HT_.out (by kernel_rfl)) (fun _ _ _ h => h) (Or.inl ⟨by rfl, ?_⟩) ?_ ?_
            rotate_left
            ·intro w'
             go_simp
             with_reducible rfl
            rotate_left
            ·simp only [Act.put, sA, sB, sC, i64_w, i32_w]
             rfl
            refine pure_ (i := 13) (N := some 16) (v := ?_) (a' := ?_) #[X,X,X,X,X,X,X,X,X,X,X,X,X,X,Z] rfl rfl (any_of HT_.out (by kernel_rfl)) (fun _ _ _ h => h) (Or.inl ⟨by rfl, ?_⟩) ?_ ?_
            rotate_left
            ·intro w'
             go_simp
             with_reducible rfl
            rotate_left
            ·simp only [Act.put, sA, sB, sC, i64_w, i32_w]
             rfl
            refine pure_ (i := 14) (N := some 17) (v := ?_) (a' := ?_) #[X,X,X,X,X,X,X,X,X,X,X,X,X,X,X] rfl rfl (any_of HT_.out (by kernel_rfl)) (fun _ _ _ h => h) (Or.inl ⟨by rfl, ?_⟩) ?_ ?_
            rotate_left
            ·intro w'
             go_simp
             with_reducible rfl
            rotate_left
            ·simp only [Act.put, sA, sB, sC, i64_w, i32_w]
             rfl
            refine done_ (done_of HT_.out (by kernel_rfl)) ?_
            have hnb73 := NB519_530.out
            have hnc73 := NB530_519.out
            have hcz74_0 : w69.cell? ⟨gb519, 0, none⟩ = some (.int .i64 t515) := (blk_cell BK519.out 0).trans rfl
            have hcz74_1 : w69.cell? ⟨gb519, 1, none⟩ = some (.int .i64 t516) := (blk_cell BK519.out 1).trans rfl
            have hcz74_2 : w69.cell? ⟨gb519, 2, none⟩ = some (.int .i64 t517) := (blk_cell BK519.out 2).trans rfl
            have hfz74_0 := blk_frozen BK519.out 0
            have hfz74_1 := blk_frozen BK519.out 1
            have hfz74_2 := blk_frozen BK519.out 2
            have hnb75 := NB509_530.out
            have hnc75 := NB530_509.out
            have hcz76_0 : w69.cell? ⟨gb509, 0, none⟩ = some (.int .i64 t505) := (blk_cell BK509.out 0).trans rfl
            have hcz76_1 : w69.cell? ⟨gb509, 1, none⟩ = some (.int .i64 t506) := (blk_cell BK509.out 1).trans rfl
            have hcz76_2 : w69.cell? ⟨gb509, 2, none⟩ = some (.int .i64 t507) := (blk_cell BK509.out 2).trans rfl
            have hfz76_0 := blk_frozen BK509.out 0
            have hfz76_1 := blk_frozen BK509.out 1
            have hfz76_2 := blk_frozen BK509.out 2
            try go_wp2
            go_ret
            exact ⟨by first | rfl | (simp [errW_none, errW_some] <;> rfl) | (simp [*, errW_none, errW_some] <;> rfl) | (simp (discharger := omega) only [Int.tdiv_eq_ediv_of_nonneg, Int.tmod_eq_emod_of_nonneg] <;> rfl), by repeat (first | (with_reducible first | exact HB.out | apply below_alloc | apply pw_below_drewN | apply below_drew1 | refine below_set ?_ GE509.out | refine below_set ?_ GE514.out | refine below_set ?_ GE519.out | refine below_set ?_ GE530.out) | exact HB.out)⟩
           ·rw [if_neg c48] at H
            exact absurd H (by simp)
          ·rw [if_neg c47] at H
           have c47b0 : (t505 == 0) = false := beq_eq_false_iff_ne.mpr c47
           have c47b1 : (t505 != 0) = true := bne_iff_ne.mpr c47
           by_cases c77 : t505 = t506
           ·rw [if_pos c77] at H
            have c77b0 : (t505 == t506) = true := beq_iff_eq.mpr c77
            have c77b1 : (t505 != t506) = false := bne_eq_false_iff_eq.mpr c77
            clear c77
            by_cases c78 : t517 = 0
            ·rw [if_pos c78] at H
             have c78b0 : (t517 == 0) = true := beq_iff_eq.mpr c78
             have c78b1 : (t517 != 0) = false := bne_eq_false_iff_eq.mpr c78
             clear c78
             obtain rfl := Option.some.inj H
             go_enter Try.func7, Try.ntmps7
             try go_wp2_with (first | ((with_reducible refine gate_callee (f := 4) rfl ?_); refine goesL_ (some 18) rfl rfl Try.func4 (by kernel_rfl) rfl #[] rfl (by (try simp only [List.map_toArray, List.map_cons, List.map_nil]); first | done | rfl | (simp only [List.length_drop, List.length_take]; rfl)) ?_; (with_reducible refine (tipstafflaw16_PanelKnown.calls k  true _ A4.out).mono ?_); rintro e w79 ⟨rfl, hb⟩; refine ⟨_, rfl, ?_⟩; have n0_ := Aside0.mk (below_step (by repeat (first | (with_reducible first | exact HB.out | apply below_alloc | apply pw_below_drewN | apply below_drew1) | exact HB.out)) hb); clear HB; have HB := n0_; clear n0_; (try clear hb); (try clear hb2); (try clear hk); (try clear hi)) | ((with_reducible refine gate_callee (f := 25) rfl ?_); refine goesL_ (some 22) rfl rfl Try.func25 (by kernel_rfl) rfl #[.int .i64 a0, .slice A1 l1.length c1] rfl (by (try simp only [List.map_toArray, List.map_cons, List.map_nil]); first | done | rfl | (simp only [List.length_drop, List.length_take]; rfl)) ?_; (with_reducible refine (tipstafflaw16_made.calls k a0 _ _ l1 t505 t506 t507 true _ ?side1 ?side2 A5.out).mono ?_); (case side1 => repeat (first | exact (Kd.C_below HR1.out HB.out) | (with_reducible refine Kd.C_alloc ?_ _) | (with_reducible refine Kd.C_drewN ?_ _) | (with_reducible refine Kd.C_drew ?_))); (case side2 => exact HC1.out); rintro e w80 ⟨rfl, hb⟩; refine ⟨_, rfl, ?_⟩; have n0_ := Aside0.mk (below_step (by repeat (first | (with_reducible first | exact HB.out | apply below_alloc | apply pw_below_drewN | apply below_drew1) | exact HB.out)) hb); clear HB; have HB := n0_; clear n0_; (try clear hb); (try clear hb2); (try clear hk); (try clear hi)) | ((with_reducible refine gate_dst (N := 8) rfl ?_); refine box_event ?hg (N := 8) ?hd (cs := #[.int .i64 0, .int .i64 0, .int .i64 0]) (t := 23) ?hr ?_; (case hd => rfl); (case hg => rfl); (case hr => first | (go_simp; done) | (go_simp; rfl)); intro gb509 hg w81 hbox hb; have n0_ := Aside0.mk (below_step (by repeat (first | (with_reducible first | exact HB.out | apply below_alloc | apply pw_below_drewN | apply below_drew1) | exact HB.out)) hb); have n1_ := Aside0.mk (hbox); have n2_ := Aside0.mk ((by rw [hg]; exact (below_size (by repeat (first | (with_reducible first | exact HB.out | apply below_alloc | apply pw_below_drewN | apply below_drew1) | exact HB.out))) : w.heap.size ≤ gb509)); have n3_ := Aside0.mk ((by rw [hg]; exact (below_size (by repeat (first | (with_reducible first | exact HB.out | apply below_alloc | apply pw_below_drewN | apply below_drew1) | exact HB.out))) : w.heap.size ≤ gb509)); clear HB; have HB := n0_; have BK509 := n1_; have GW509 := n2_; have GE509 := n3_; clear n0_ n1_ n2_ n3_; clear hb hbox hg; have hcz82_0 : w81.cell? ⟨gb509, 0, none⟩ = some (.int .i64 0) := (blk_cell BK509.out 0).trans rfl; have hcz82_1 : w81.cell? ⟨gb509, 1, none⟩ = some (.int .i64 0) := (blk_cell BK509.out 1).trans rfl; have hcz82_2 : w81.cell? ⟨gb509, 2, none⟩ = some (.int .i64 0) := (blk_cell BK509.out 2).trans rfl; have hfz82_0 := blk_frozen BK509.out 0; have hfz82_1 := blk_frozen BK509.out 1; have hfz82_2 := blk_frozen BK509.out 2) | ((with_reducible refine gate_callee (f := 20) rfl ?_); refine goesL_ (some 27) rfl rfl Try.func20 (by kernel_rfl) rfl #[.agg #[.int .i64 t505, .int .i64 t506, .int .i64 t507], .int .i64 4] rfl (by (try simp only [List.map_toArray, List.map_cons, List.map_nil]); first | done | rfl | (simp only [List.length_drop, List.length_take]; rfl)) ?_; (with_reducible refine (panel_Order.calls k t505 t506 t507 4 t510 t511 t512 t513 _ A6.out).mono ?_); rintro e w83 ⟨rfl, hb⟩; refine ⟨_, rfl, ?_⟩; have n0_ := Aside0.mk (blk_below (g := gb509) (o := .cells #[.int .i64 t505, .int .i64 t506, .int .i64 t507] 23 (0, 0)) (by (with_reducible repeat (first | refine blk_drewN ?_ _ | refine blk_drew ?_ | refine blk_alloc ?_ _)); refine blk_put (cs := #[.int .i64 t505, .int .i64 t506, .int .i64 0]) ?_ 2 _ rfl; (with_reducible repeat (first | refine blk_drewN ?_ _ | refine blk_drew ?_ | refine blk_alloc ?_ _)); refine blk_put (cs := #[.int .i64 t505, .int .i64 0, .int .i64 0]) ?_ 1 _ rfl; (with_reducible repeat (first | refine blk_drewN ?_ _ | refine blk_drew ?_ | refine blk_alloc ?_ _)); refine blk_put (cs := #[.int .i64 0, .int .i64 0, .int .i64 0]) ?_ 0 _ rfl; (with_reducible repeat (first | refine blk_drewN ?_ _ | refine blk_drew ?_ | refine blk_alloc ?_ _)); exact BK509.out) hb); have n1_ := Aside0.mk (below_step (by repeat (first | (with_reducible first | exact HB.out | apply below_alloc | apply pw_below_drewN | apply below_drew1 | refine below_set ?_ GE509.out) | exact HB.out)) hb); clear BK509; clear HB; have BK509 := n0_; have HB := n1_; clear n0_ n1_; (try clear hb); (try clear hb2); (try clear hk); (try clear hi)) | ((with_reducible refine gate_dst (N := 10) rfl ?_); refine box_event ?hg (N := 10) ?hd (cs := #[.int .i64 0, .int .i64 0, .int .i64 0]) (t := 23) ?hr ?_; (case hd => rfl); (case hg => rfl); (case hr => first | (go_simp; done) | (go_simp; rfl)); intro gb514 hg w84 hbox hb; have n0_ := Aside0.mk (blk_below (g := gb509) (o := .cells #[.int .i64 t505, .int .i64 t506, .int .i64 t507] 23 (0, 0)) (by (with_reducible repeat (first | refine blk_drewN ?_ _ | refine blk_drew ?_ | refine blk_alloc ?_ _)); exact BK509.out) hb); have n1_ := Aside0.mk (below_step (by repeat (first | (with_reducible first | exact HB.out | apply below_alloc | apply pw_below_drewN | apply below_drew1 | refine below_set ?_ GE509.out) | exact HB.out)) hb); have n2_ := Aside0.mk (hbox); have n3_ := Aside0.mk ((by rw [hg]; exact (below_size (by repeat (first | (with_reducible first | exact HB.out | apply below_alloc | apply pw_below_drewN | apply below_drew1 | refine below_set ?_ GE509.out) | exact HB.out))) : w.heap.size ≤ gb514)); have n4_ := Aside0.mk ((by rw [hg]; exact (below_size (by repeat (first | (with_reducible first | exact HB.out | apply below_alloc | apply pw_below_drewN | apply below_drew1 | refine below_set ?_ GE509.out) | exact HB.out))) : w.heap.size ≤ gb514)); have n5_ := Aside0.mk ((by rw [hg]; exact Nat.ne_of_lt (blk_lt (g := gb509) (o := .cells #[.int .i64 t505, .int .i64 t506, .int .i64 t507] 23 (0, 0)) (by (with_reducible repeat (first | refine blk_drewN ?_ _ | refine blk_drew ?_ | refine blk_alloc ?_ _)); exact BK509.out)) : gb509 ≠ gb514)); have n6_ := Aside0.mk ((by rw [hg]; exact Nat.ne_of_gt (blk_lt (g := gb509) (o := .cells #[.int .i64 t505, .int .i64 t506, .int .i64 t507] 23 (0, 0)) (by (with_reducible repeat (first | refine blk_drewN ?_ _ | refine blk_drew ?_ | refine blk_alloc ?_ _)); exact BK509.out)) : gb514 ≠ gb509)); clear BK509; clear HB; have BK509 := n0_; have HB := n1_; have BK514 := n2_; have GW514 := n3_; have GE514 := n4_; have NB509_514 := n5_; have NB514_509 := n6_; clear n0_ n1_ n2_ n3_ n4_ n5_ n6_; clear hb hbox hg; have hnb85 := NB514_509.out; have hnc85 := NB509_514.out; have hcz86_0 : w84.cell? ⟨gb514, 0, none⟩ = some (.int .i64 0) := (blk_cell BK514.out 0).trans rfl; have hcz86_1 : w84.cell? ⟨gb514, 1, none⟩ = some (.int .i64 0) := (blk_cell BK514.out 1).trans rfl; have hcz86_2 : w84.cell? ⟨gb514, 2, none⟩ = some (.int .i64 0) := (blk_cell BK514.out 2).trans rfl; have hfz86_0 := blk_frozen BK514.out 0; have hfz86_1 := blk_frozen BK514.out 1; have hfz86_2 := blk_frozen BK514.out 2) | ((with_reducible refine gate_callee (f := 20) rfl ?_); refine goesL_ (some 32) rfl rfl Try.func20 (by kernel_rfl) rfl #[.agg #[.int .i64 t510, .int .i64 t511, .int .i64 t512], .int .i64 4] rfl (by (try simp only [List.map_toArray, List.map_cons, List.map_nil]); first | done | rfl | (simp only [List.length_drop, List.length_take]; rfl)) ?_; (with_reducible refine (panel_Order.calls k t510 t511 t512 4 t515 t516 t517 t518 _ A7.out).mono ?_); rintro e w87 ⟨rfl, hb⟩; refine ⟨_, rfl, ?_⟩; have n0_ := Aside0.mk (blk_below (g := gb509) (o := .cells #[.int .i64 t505, .int .i64 t506, .int .i64 t507] 23 (0, 0)) (by (with_reducible repeat (first | refine blk_drewN ?_ _ | refine blk_drew ?_ | refine blk_alloc ?_ _)); refine blk_far ?_ NB509_514.out _; (with_reducible repeat (first | refine blk_drewN ?_ _ | refine blk_drew ?_ | refine blk_alloc ?_ _)); refine blk_far ?_ NB509_514.out _; (with_reducible repeat (first | refine blk_drewN ?_ _ | refine blk_drew ?_ | refine blk_alloc ?_ _)); refine blk_far ?_ NB509_514.out _; (with_reducible repeat (first | refine blk_drewN ?_ _ | refine blk_drew ?_ | refine blk_alloc ?_ _)); exact BK509.out) hb); have n1_ := Aside0.mk (blk_below (g := gb514) (o := .cells #[.int .i64 t510, .int .i64 t511, .int .i64 t512] 23 (0, 0)) (by (with_reducible repeat (first | refine blk_drewN ?_ _ | refine blk_drew ?_ | refine blk_alloc ?_ _)); refine blk_put (cs := #[.int .i64 t510, .int .i64 t511, .int .i64 0]) ?_ 2 _ rfl; (with_reducible repeat (first | refine blk_drewN ?_ _ | refine blk_drew ?_ | refine blk_alloc ?_ _)); refine blk_put (cs := #[.int .i64 t510, .int .i64 0, .int .i64 0]) ?_ 1 _ rfl; (with_reducible repeat (first | refine blk_drewN ?_ _ | refine blk_drew ?_ | refine blk_alloc ?_ _)); refine blk_put (cs := #[.int .i64 0, .int .i64 0, .int .i64 0]) ?_ 0 _ rfl; (with_reducible repeat (first | refine blk_drewN ?_ _ | refine blk_drew ?_ | refine blk_alloc ?_ _)); exact BK514.out) hb); have n2_ := Aside0.mk (below_step (by repeat (first | (with_reducible first | exact HB.out | apply below_alloc | apply pw_below_drewN | apply below_drew1 | refine below_set ?_ GE509.out | refine below_set ?_ GE514.out) | exact HB.out)) hb); clear BK509; clear BK514; clear HB; have BK509 := n0_; have BK514 := n1_; have HB := n2_; clear n0_ n1_ n2_; (try clear hb); (try clear hb2); (try clear hk); (try clear hi)) | ((with_reducible refine gate_dst (N := 12) rfl ?_); refine box_event ?hg (N := 12) ?hd (cs := #[.int .i64 0, .int .i64 0, .int .i64 0]) (t := 23) ?hr ?_; (case hd => rfl); (case hg => rfl); (case hr => first | (go_simp; done) | (go_simp; rfl)); intro gb519 hg w88 hbox hb; have n0_ := Aside0.mk (blk_below (g := gb509) (o := .cells #[.int .i64 t505, .int .i64 t506, .int .i64 t507] 23 (0, 0)) (by (with_reducible repeat (first | refine blk_drewN ?_ _ | refine blk_drew ?_ | refine blk_alloc ?_ _)); exact BK509.out) hb); have n1_ := Aside0.mk (blk_below (g := gb514) (o := .cells #[.int .i64 t510, .int .i64 t511, .int .i64 t512] 23 (0, 0)) (by (with_reducible repeat (first | refine blk_drewN ?_ _ | refine blk_drew ?_ | refine blk_alloc ?_ _)); exact BK514.out) hb); have n2_ := Aside0.mk (below_step (by repeat (first | (with_reducible first | exact HB.out | apply below_alloc | apply pw_below_drewN | apply below_drew1 | refine below_set ?_ GE509.out | refine below_set ?_ GE514.out) | exact HB.out)) hb); have n3_ := Aside0.mk (hbox); have n4_ := Aside0.mk ((by rw [hg]; exact (below_size (by repeat (first | (with_reducible first | exact HB.out | apply below_alloc | apply pw_below_drewN | apply below_drew1 | refine below_set ?_ GE509.out | refine below_set ?_ GE514.out) | exact HB.out))) : w.heap.size ≤ gb519)); have n5_ := Aside0.mk ((by rw [hg]; exact (below_size (by repeat (first | (with_reducible first | exact HB.out | apply below_alloc | apply pw_below_drewN | apply below_drew1 | refine below_set ?_ GE509.out | refine below_set ?_ GE514.out) | exact HB.out))) : w.heap.size ≤ gb519)); have n6_ := Aside0.mk ((by rw [hg]; exact Nat.ne_of_lt (blk_lt (g := gb509) (o := .cells #[.int .i64 t505, .int .i64 t506, .int .i64 t507] 23 (0, 0)) (by (with_reducible repeat (first | refine blk_drewN ?_ _ | refine blk_drew ?_ | refine blk_alloc ?_ _)); exact BK509.out)) : gb509 ≠ gb519)); have n7_ := Aside0.mk ((by rw [hg]; exact Nat.ne_of_gt (blk_lt (g := gb509) (o := .cells #[.int .i64 t505, .int .i64 t506, .int .i64 t507] 23 (0, 0)) (by (with_reducible repeat (first | refine blk_drewN ?_ _ | refine blk_drew ?_ | refine blk_alloc ?_ _)); exact BK509.out)) : gb519 ≠ gb509)); have n8_ := Aside0.mk ((by rw [hg]; exact Nat.ne_of_lt (blk_lt (g := gb514) (o := .cells #[.int .i64 t510, .int .i64 t511, .int .i64 t512] 23 (0, 0)) (by (with_reducible repeat (first | refine blk_drewN ?_ _ | refine blk_drew ?_ | refine blk_alloc ?_ _)); exact BK514.out)) : gb514 ≠ gb519)); have n9_ := Aside0.mk ((by rw [hg]; exact Nat.ne_of_gt (blk_lt (g := gb514) (o := .cells #[.int .i64 t510, .int .i64 t511, .int .i64 t512] 23 (0, 0)) (by (with_reducible repeat (first | refine blk_drewN ?_ _ | refine blk_drew ?_ | refine blk_alloc ?_ _)); exact BK514.out)) : gb519 ≠ gb514)); clear BK509; clear BK514; clear HB; have BK509 := n0_; have BK514 := n1_; have HB := n2_; have BK519 := n3_; have GW519 := n4_; have GE519 := n5_; have NB509_519 := n6_; have NB519_509 := n7_; have NB514_519 := n8_; have NB519_514 := n9_; clear n0_ n1_ n2_ n3_ n4_ n5_ n6_ n7_ n8_ n9_; clear hb hbox hg; have hnb89 := NB519_509.out; have hnc89 := NB509_519.out; have hnb90 := NB519_514.out; have hnc90 := NB514_519.out; have hcz91_0 : w88.cell? ⟨gb519, 0, none⟩ = some (.int .i64 0) := (blk_cell BK519.out 0).trans rfl; have hcz91_1 : w88.cell? ⟨gb519, 1, none⟩ = some (.int .i64 0) := (blk_cell BK519.out 1).trans rfl; have hcz91_2 : w88.cell? ⟨gb519, 2, none⟩ = some (.int .i64 0) := (blk_cell BK519.out 2).trans rfl; have hfz91_0 := blk_frozen BK519.out 0; have hfz91_1 := blk_frozen BK519.out 1; have hfz91_2 := blk_frozen BK519.out 2))
             have n0_ : Aside0 ((((w88.setCell ⟨gb519, 0, none⟩ (.int .i64 t515)).setCell ⟨gb519, 1, none⟩ (.int .i64 t516)).setCell ⟨gb519, 2, none⟩ (.int .i64 t517)).heap[gb509]? = some (.cells #[.int .i64 t505, .int .i64 t506, .int .i64 t507] 23 (0, 0))) := ⟨by (with_reducible repeat (first | refine blk_drewN ?_ _ | refine blk_drew ?_ | refine blk_alloc ?_ _)); refine blk_far ?_ NB509_519.out _; (with_reducible repeat (first | refine blk_drewN ?_ _ | refine blk_drew ?_ | refine blk_alloc ?_ _)); refine blk_far ?_ NB509_519.out _; (with_reducible repeat (first | refine blk_drewN ?_ _ | refine blk_drew ?_ | refine blk_alloc ?_ _)); refine blk_far ?_ NB509_519.out _; (with_reducible repeat (first | refine blk_drewN ?_ _ | refine blk_drew ?_ | refine blk_alloc ?_ _)); exact BK509.out⟩
             have n1_ : Aside0 ((((w88.setCell ⟨gb519, 0, none⟩ (.int .i64 t515)).setCell ⟨gb519, 1, none⟩ (.int .i64 t516)).setCell ⟨gb519, 2, none⟩ (.int .i64 t517)).heap[gb514]? = some (.cells #[.int .i64 t510, .int .i64 t511, .int .i64 t512] 23 (0, 0))) := ⟨by (with_reducible repeat (first | refine blk_drewN ?_ _ | refine blk_drew ?_ | refine blk_alloc ?_ _)); refine blk_far ?_ NB514_519.out _; (with_reducible repeat (first | refine blk_drewN ?_ _ | refine blk_drew ?_ | refine blk_alloc ?_ _)); refine blk_far ?_ NB514_519.out _; (with_reducible repeat (first | refine blk_drewN ?_ _ | refine blk_drew ?_ | refine blk_alloc ?_ _)); refine blk_far ?_ NB514_519.out _; (with_reducible repeat (first | refine blk_drewN ?_ _ | refine blk_drew ?_ | refine blk_alloc ?_ _)); exact BK514.out⟩
             have n2_ : Aside0 ((((w88.setCell ⟨gb519, 0, none⟩ (.int .i64 t515)).setCell ⟨gb519, 1, none⟩ (.int .i64 t516)).setCell ⟨gb519, 2, none⟩ (.int .i64 t517)).heap[gb519]? = some (.cells #[.int .i64 t515, .int .i64 t516, .int .i64 t517] 23 (0, 0))) := ⟨by (with_reducible repeat (first | refine blk_drewN ?_ _ | refine blk_drew ?_ | refine blk_alloc ?_ _)); refine blk_put (cs := #[.int .i64 t515, .int .i64 t516, .int .i64 0]) ?_ 2 _ rfl; (with_reducible repeat (first | refine blk_drewN ?_ _ | refine blk_drew ?_ | refine blk_alloc ?_ _)); refine blk_put (cs := #[.int .i64 t515, .int .i64 0, .int .i64 0]) ?_ 1 _ rfl; (with_reducible repeat (first | refine blk_drewN ?_ _ | refine blk_drew ?_ | refine blk_alloc ?_ _)); refine blk_put (cs := #[.int .i64 0, .int .i64 0, .int .i64 0]) ?_ 0 _ rfl; (with_reducible repeat (first | refine blk_drewN ?_ _ | refine blk_drew ?_ | refine blk_alloc ?_ _)); exact BK519.out⟩
             have n3_ : Aside0 (Below w.heap.size w (((w88.setCell ⟨gb519, 0, none⟩ (.int .i64 t515)).setCell ⟨gb519, 1, none⟩ (.int .i64 t516)).setCell ⟨gb519, 2, none⟩ (.int .i64 t517))) := ⟨by repeat (first | (with_reducible first | exact HB.out | apply below_alloc | apply pw_below_drewN | apply below_drew1 | refine below_set ?_ GE509.out | refine below_set ?_ GE514.out | refine below_set ?_ GE519.out) | exact HB.out)⟩
             (try clear BK509)
             (try clear BK514)
             (try clear BK519)
             (try clear HB)
             generalize (((w88.setCell ⟨gb519, 0, none⟩ (.int .i64 t515)).setCell ⟨gb519, 1, none⟩ (.int .i64 t516)).setCell ⟨gb519, 2, none⟩ (.int .i64 t517)) = w92 at n0_ n1_ n2_ n3_ ⊢
             have BK509 := n0_
             have BK514 := n1_
             have BK519 := n2_
             have HB := n3_
             clear n0_ n1_ n2_ n3_
             have n0_ := Aside0.mk (blk_drew BK509.out)
             have n1_ := Aside0.mk (blk_drew BK514.out)
             have n2_ := Aside0.mk (blk_drew BK519.out)
             have n3_ := Aside0.mk (below_drew1 HB.out)
             clear BK509
             clear BK514
             clear BK519
             clear HB
             have BK509 := n0_
             have BK514 := n1_
             have BK519 := n2_
             have HB := n3_
             clear n0_ n1_ n2_ n3_
             refine start_ (n := 15) (S := fun w' => w'.cell? ⟨gb509, 0, none⟩ = some (.int .i64 t505) ∧ w'.cell? ⟨gb509, 1, none⟩ = some (.int .i64 t506) ∧ w'.cell? ⟨gb509, 2, none⟩ = some (.int .i64 t507)) (ds := []) #[Z,Z,Z,Z,Z,Z,Z,Z,Z,Z,Z,Z,Z,Z,Z] (by kernel_rfl) rfl rfl ⟨(blk_cell BK509.out 0).trans rfl, (blk_cell BK509.out 1).trans rfl, (blk_cell BK509.out 2).trans rfl⟩ (fun hHeld => ?_); refine with_tabW tipstafflaw16_PanelBack.tab5 tipstafflaw16_PanelBack.bits5 (fun HT_ HW_ => ?_)
             generalize w92.drew = w93 at BK509 BK514 BK519 HB hHeld ⊢
             refine pure_ (i := 1) (N := some 37) (v := ?_) (a' := ?_) #[Z,X,Z,Z,Z,Z,Z,Z,Z,Z,Z,Z,Z,Z,Z] rfl rfl (any_of HT_.out (by kernel_rfl)) (fun _ _ _ h => h) (Or.inl ⟨by rfl, ?_⟩) ?_ ?_
             rotate_left
             ·intro w'
              go_simp
              with_reducible rfl
             rotate_left
             ·simp only [Act.put, sA, sB, sC, i64_w, i32_w]
              rfl
             refine take_ (i := 0) (N := some 36) (v := ?_) (a' := ?_) #[X,X,Z,Z,Z,Z,Z,Z,Z,Z,Z,Z,Z,Z,Z] rfl rfl (take_ofW HT_.out HW_.out (by kernel_rfl)) (fun _ _ _ h => h) (Or.inl ⟨by rfl, ?_⟩) hHeld ?_ ?_
             rotate_left
             ·rintro w' ⟨s0, s1, s2⟩
              go_simp
              with_reducible rfl
             rotate_left
             ·simp only [Act.put, sA, sB, sC, i64_w, i32_w]
              rfl
             refine join_ (σ := Value × Nat) 4 #[X,X,X,X,X,X,X,X,X,X,X,Z,Z,Z,Z] (fun s_ => [(38, .int .i64 t520), (39, s_.1), (40, .tuple #[.agg #[.int .i64 t524, .int .i64 t525, .int .i64 t526], .int .i64 t527, .int .i64 t528, .int .i64 t529]), (14, .pointer (some ⟨s_.2, 0, none⟩)), (35, .tuple #[.agg #[.int .i64 t524, .int .i64 t525, .int .i64 t526], .int .i64 t527, .int .i64 t528, .int .i64 t529]), (41, .agg #[.int .i64 t524, .int .i64 t525, .int .i64 t526]), (42, .int .i64 t527), (43, .int .i64 t528), (44, .int .i64 t529)]) (fun s_ w' => (w'.cell? ⟨gb509, 0, none⟩ = some (.int .i64 t505) ∧ w'.cell? ⟨gb509, 1, none⟩ = some (.int .i64 t506) ∧ w'.cell? ⟨gb509, 2, none⟩ = some (.int .i64 t507)) ∧ (Kd.R (Kd.int .i64) 3 w' w.heap.size (fun _ => True) s_.1 y521) ∧ (w'.heap[gb509]? = some (.cells #[.int .i64 t505, .int .i64 t506, .int .i64 t507] 23 (0, 0))) ∧ (w'.heap[gb514]? = some (.cells #[.int .i64 t510, .int .i64 t511, .int .i64 t512] 23 (0, 0))) ∧ (w'.heap[gb519]? = some (.cells #[.int .i64 t515, .int .i64 t516, .int .i64 t517] 23 (0, 0))) ∧ (w'.heap[s_.2]? = some (.cells #[.int .i64 0, .int .i64 0, .int .i64 0] 23 (0, 0))) ∧ (w.heap.size ≤ s_.2) ∧ (w.heap.size ≤ s_.2) ∧ (gb509 ≠ s_.2) ∧ (s_.2 ≠ gb509) ∧ (gb514 ≠ s_.2) ∧ (s_.2 ≠ gb514) ∧ (gb519 ≠ s_.2) ∧ (s_.2 ≠ gb519) ∧ (Below w.heap.size w w')) ?_ ?_
             rotate_left
             ·intro hCont
              refine two_ (i := 2) (j := 10) (Ni := some 38) (Nj := some 14) #[X,X,X,Z,Z,Z,Z,Z,Z,Z,Z,Z,Z,Z,Z] #[X,X,Z,Z,Z,Z,Z,Z,Z,Z,X,Z,Z,Z,Z] rfl rfl rfl rfl (two_of HT_.out (by kernel_rfl)) (by decide) (by decide) (fun K hK => ?_) (fun K hK => ?_)
              ·skip
               refine goes_ Try.func26 (by kernel_rfl) rfl #[.int .i64 a2, .int .i64 60] (by rfl) rfl rfl (by (try simp only [List.map_toArray, List.map_cons, List.map_nil]); first | done | rfl | (simp only [List.length_drop, List.length_take]; rfl)) ?_
               with_reducible refine (tipstaffkit_Mod.calls a2 60 t520 _ A8.out).mono ?_
               rintro e w' ⟨rfl, ⟨nd, rfl⟩⟩
               refine ⟨_, rfl, ?_⟩
               refine hK.out _ _ ⟨(blk_cell BK509.out 0).trans rfl, (blk_cell BK509.out 1).trans rfl, (blk_cell BK509.out 2).trans rfl⟩ (fun hHeld => ?_)
               clear hK K
               refine norm_ (a' := ?_) ?_ ?_
               rotate_left
               ·show Act.put _ (some 38) _ = _
                simp only [Act.put, sA, sB, sC, i64_w, i32_w]
                rfl
               refine two_ (i := 3) (j := 10) (Ni := some 39) (Nj := some 14) #[X,X,X,X,Z,Z,Z,Z,Z,Z,Z,Z,Z,Z,Z] #[X,X,X,Z,Z,Z,Z,Z,Z,Z,X,Z,Z,Z,Z] rfl rfl rfl rfl (two_of HT_.out (by kernel_rfl)) (by decide) (by decide) (fun K hK => ?_) (fun K hK => ?_)
               ·skip
                refine Kd.R_make_step (Kd.int .i64) _ 3 (by rfl) (N := 39) rfl 24 _ _ rfl t520 rfl rfl Try.underlying24 (.int .i64 0) 8 info3 rfl (by decide) (by omega) 0 (ok := fun _ => True) (okp := fun _ => True) rfl (fun _ hk => hk) trivial (of_decide_eq_true (by first | (with_reducible assumption) | assumption)) (Nat.le_trans (Nat.mul_le_mul_right _ (of_decide_eq_true (by first | (with_reducible assumption) | assumption) : t520.toNat ≤ 35184372088832)) (by omega)) (Below.refl _ _) (Nat.le_refl _) ?_
                intro v522 w94 ho95 hb hg_ hnew_
                clear hg_ hnew_
                (first | rw [← Ny521.out] at ho95 | (simp only [Int.reduceToNat] at ho95; rw [← Ny521.out] at ho95))
                have n0_ := Aside0.mk (Kd.R_lower ho95 (below_size (by repeat (first | (with_reducible first | exact HB.out | apply below_alloc | apply pw_below_drewN | apply below_drew1 | refine below_set ?_ GE509.out | refine below_set ?_ GE514.out | refine below_set ?_ GE519.out) | exact HB.out))))
                have n1_ := Aside0.mk (blk_below (g := gb509) (o := .cells #[.int .i64 t505, .int .i64 t506, .int .i64 t507] 23 (0, 0)) (by (with_reducible repeat (first | refine blk_drewN ?_ _ | refine blk_drew ?_ | refine blk_alloc ?_ _)); exact BK509.out) hb)
                have n2_ := Aside0.mk (blk_below (g := gb514) (o := .cells #[.int .i64 t510, .int .i64 t511, .int .i64 t512] 23 (0, 0)) (by (with_reducible repeat (first | refine blk_drewN ?_ _ | refine blk_drew ?_ | refine blk_alloc ?_ _)); exact BK514.out) hb)
                have n3_ := Aside0.mk (blk_below (g := gb519) (o := .cells #[.int .i64 t515, .int .i64 t516, .int .i64 t517] 23 (0, 0)) (by (with_reducible repeat (first | refine blk_drewN ?_ _ | refine blk_drew ?_ | refine blk_alloc ?_ _)); exact BK519.out) hb)
                have n4_ := Aside0.mk (below_step (by repeat (first | (with_reducible first | exact HB.out | apply below_alloc | apply pw_below_drewN | apply below_drew1 | refine below_set ?_ GE509.out | refine below_set ?_ GE514.out | refine below_set ?_ GE519.out) | exact HB.out)) hb)
                clear BK509
                clear BK514
                clear BK519
                clear HB
                have HO523 := n0_
                have BK509 := n1_
                have BK514 := n2_
                have BK519 := n3_
                have HB := n4_
                clear n0_ n1_ n2_ n3_ n4_
                clear hb ho95
                obtain ⟨Ao96, co96, eo96⟩ := Kd.R_slice HO523.out
                (first | subst eo96 | (injection eo96 with f1_ f2_ f3_; have f4_ := f1_.symm; have f5_ := f3_.symm; clear f1_ f2_ f3_; subst f4_; subst f5_))
                refine hK.out _ _ ⟨(blk_cell BK509.out 0).trans rfl, (blk_cell BK509.out 1).trans rfl, (blk_cell BK509.out 2).trans rfl⟩ (fun hHeld => ?_)
                clear hK K
                refine norm_ (a' := ?_) ?_ ?_
                rotate_left
                ·show Act.put _ (some 39) _ = _
                 simp only [Act.put, sA, sB, sC, i64_w, i32_w]
                 rfl
                refine two_ (i := 4) (j := 10) (Ni := some 40) (Nj := some 14) #[X,X,X,X,X,Z,Z,Z,Z,Z,Z,Z,Z,Z,Z] #[X,X,X,X,Z,Z,Z,Z,Z,Z,X,Z,Z,Z,Z] rfl rfl rfl rfl (two_of HT_.out (by kernel_rfl)) (by decide) (by decide) (fun K hK => ?_) (fun K hK => ?_)
                ·skip
                 refine goes_ Try.func11 (by kernel_rfl) rfl #[.agg #[.int .i64 t505, .int .i64 t506, .int .i64 t507], .slice Ao96 y521.length co96] (by rfl) rfl rfl (by (try simp only [List.map_toArray, List.map_cons, List.map_nil]); first | done | rfl | (simp only [List.length_drop, List.length_take]; rfl)) ?_
                 with_reducible refine (panel_Swing.calls k t505 t506 t507 _ _ y521 t524 t525 t526 t527 t528 t529 _ ?side1 ?side2 A11.out).mono ?_
                 (case side1 => repeat (first | exact (Kd.R_reads' HO523.out).2.2 | (with_reducible refine Kd.C_alloc ?_ _) | (with_reducible refine Kd.C_drewN ?_ _) | (with_reducible refine Kd.C_drew ?_)))
                 (case side2 => exact (Kd.R_reads' HO523.out).2.1)
                 rintro e w97 ⟨rfl, hb⟩
                 refine ⟨_, rfl, ?_⟩
                 have n0_ := Aside0.mk (Kd.R_below (by (with_reducible repeat (first | apply Kd.R_alloc | apply Kd.R_drewN | apply Kd.R_drew)); exact HO523.out) hb)
                 have n1_ := Aside0.mk (blk_below (g := gb509) (o := .cells #[.int .i64 t505, .int .i64 t506, .int .i64 t507] 23 (0, 0)) (by (with_reducible repeat (first | refine blk_drewN ?_ _ | refine blk_drew ?_ | refine blk_alloc ?_ _)); exact BK509.out) hb)
                 have n2_ := Aside0.mk (blk_below (g := gb514) (o := .cells #[.int .i64 t510, .int .i64 t511, .int .i64 t512] 23 (0, 0)) (by (with_reducible repeat (first | refine blk_drewN ?_ _ | refine blk_drew ?_ | refine blk_alloc ?_ _)); exact BK514.out) hb)
                 have n3_ := Aside0.mk (blk_below (g := gb519) (o := .cells #[.int .i64 t515, .int .i64 t516, .int .i64 t517] 23 (0, 0)) (by (with_reducible repeat (first | refine blk_drewN ?_ _ | refine blk_drew ?_ | refine blk_alloc ?_ _)); exact BK519.out) hb)
                 have n4_ := Aside0.mk (below_step (by repeat (first | (with_reducible first | exact HB.out | apply below_alloc | apply pw_below_drewN | apply below_drew1 | refine below_set ?_ GE509.out | refine below_set ?_ GE514.out | refine below_set ?_ GE519.out) | exact HB.out)) hb)
                 clear HO523
                 clear BK509
                 clear BK514
                 clear BK519
                 clear HB
                 have HO523 := n0_
                 have BK509 := n1_
                 have BK514 := n2_
                 have BK519 := n3_
                 have HB := n4_
                 clear n0_ n1_ n2_ n3_ n4_
                 (try clear hb)
                 (try clear hb2)
                 (try clear hk)
                 (try clear hi)
                 refine hK.out _ _ ⟨(blk_cell BK509.out 0).trans rfl, (blk_cell BK509.out 1).trans rfl, (blk_cell BK509.out 2).trans rfl⟩ (fun hHeld => ?_)
                 clear hK K
                 refine norm_ (a' := ?_) ?_ ?_
                 rotate_left
                 ·show Act.put _ (some 40) _ = _
                  simp only [Act.put, sA, sB, sC, i64_w, i32_w]
                  rfl
                 refine pure_ (i := 5) (N := some 35) (v := ?_) (a' := ?_) #[X,X,X,X,X,X,Z,Z,Z,Z,Z,Z,Z,Z,Z] rfl rfl (any_of HT_.out (by kernel_rfl)) (fun _ _ _ h => h) (Or.inl ⟨by rfl, ?_⟩) ?_ ?_
                 rotate_left
                 ·intro w'
                  go_simp
                  with_reducible rfl
                 rotate_left
                 ·simp only [Act.put, sA, sB, sC, i64_w, i32_w]
                  rfl
                 refine pure_ (i := 6) (N := some 41) (v := ?_) (a' := ?_) #[X,X,X,X,X,X,X,Z,Z,Z,Z,Z,Z,Z,Z] rfl rfl (any_of HT_.out (by kernel_rfl)) (fun _ _ _ h => h) (Or.inl ⟨by rfl, ?_⟩) ?_ ?_
                 rotate_left
                 ·intro w'
                  go_simp
                  with_reducible rfl
                 rotate_left
                 ·simp only [Act.put, sA, sB, sC, i64_w, i32_w]
                  rfl
                 refine pure_ (i := 7) (N := some 42) (v := ?_) (a' := ?_) #[X,X,X,X,X,X,X,X,Z,Z,Z,Z,Z,Z,Z] rfl rfl (any_of HT_.out (by kernel_rfl)) (fun _ _ _ h => h) (Or.inl ⟨by rfl, ?_⟩) ?_ ?_
                 rotate_left
                 ·intro w'
                  go_simp
                  with_reducible rfl
                 rotate_left
                 ·simp only [Act.put, sA, sB, sC, i64_w, i32_w]
                  rfl
                 refine pure_ (i := 8) (N := some 43) (v := ?_) (a' := ?_) #[X,X,X,X,X,X,X,X,X,Z,Z,Z,Z,Z,Z] rfl rfl (any_of HT_.out (by kernel_rfl)) (fun _ _ _ h => h) (Or.inl ⟨by rfl, ?_⟩) ?_ ?_
                 rotate_left
                 ·intro w'
                  go_simp
                  with_reducible rfl
                 rotate_left
                 ·simp only [Act.put, sA, sB, sC, i64_w, i32_w]
                  rfl
                 refine pure_ (i := 9) (N := some 44) (v := ?_) (a' := ?_) #[X,X,X,X,X,X,X,X,X,X,Z,Z,Z,Z,Z] rfl rfl (any_of HT_.out (by kernel_rfl)) (fun _ _ _ h => h) (Or.inl ⟨by rfl, ?_⟩) ?_ ?_
                 rotate_left
                 ·intro w'
                  go_simp
                  with_reducible rfl
                 rotate_left
                 ·simp only [Act.put, sA, sB, sC, i64_w, i32_w]
                  rfl
                 refine one_ (i := 10) (N := some 14) #[X,X,X,X,X,X,X,X,X,X,X,Z,Z,Z,Z] rfl rfl (one_of HT_.out (by kernel_rfl)) (by decide) (fun K hK => ?_)
                 refine box_step ?hg (N := 14) ?hd (cs := #[.int .i64 0, .int .i64 0, .int .i64 0]) (t := 23) ?hr ?_; (case hd => rfl); (case hg => rfl); (case hr => first | (go_simp; done) | (go_simp; rfl))
                 intro gb530 hg w98 hbox hb
                 have n0_ := Aside0.mk (Kd.R_below (by (with_reducible repeat (first | apply Kd.R_alloc | apply Kd.R_drewN | apply Kd.R_drew)); exact HO523.out) hb)
                 have n1_ := Aside0.mk (blk_below (g := gb509) (o := .cells #[.int .i64 t505, .int .i64 t506, .int .i64 t507] 23 (0, 0)) (by (with_reducible repeat (first | refine blk_drewN ?_ _ | refine blk_drew ?_ | refine blk_alloc ?_ _)); exact BK509.out) hb)
                 have n2_ := Aside0.mk (blk_below (g := gb514) (o := .cells #[.int .i64 t510, .int .i64 t511, .int .i64 t512] 23 (0, 0)) (by (with_reducible repeat (first | refine blk_drewN ?_ _ | refine blk_drew ?_ | refine blk_alloc ?_ _)); exact BK514.out) hb)
                 have n3_ := Aside0.mk (blk_below (g := gb519) (o := .cells #[.int .i64 t515, .int .i64 t516, .int .i64 t517] 23 (0, 0)) (by (with_reducible repeat (first | refine blk_drewN ?_ _ | refine blk_drew ?_ | refine blk_alloc ?_ _)); exact BK519.out) hb)
                 have n4_ := Aside0.mk (below_step (by repeat (first | (with_reducible first | exact HB.out | apply below_alloc | apply pw_below_drewN | apply below_drew1 | refine below_set ?_ GE509.out | refine below_set ?_ GE514.out | refine below_set ?_ GE519.out) | exact HB.out)) hb)
                 have n5_ := Aside0.mk (hbox)
                 have n6_ := Aside0.mk ((by rw [hg]; exact (below_size (by repeat (first | (with_reducible first | exact HB.out | apply below_alloc | apply pw_below_drewN | apply below_drew1 | refine below_set ?_ GE509.out | refine below_set ?_ GE514.out | refine below_set ?_ GE519.out) | exact HB.out))) : w.heap.size ≤ gb530))
                 have n7_ := Aside0.mk ((by rw [hg]; exact (below_size (by repeat (first | (with_reducible first | exact HB.out | apply below_alloc | apply pw_below_drewN | apply below_drew1 | refine below_set ?_ GE509.out | refine below_set ?_ GE514.out | refine below_set ?_ GE519.out) | exact HB.out))) : w.heap.size ≤ gb530))
                 have n8_ := Aside0.mk ((by rw [hg]; exact Nat.ne_of_lt (blk_lt (g := gb509) (o := .cells #[.int .i64 t505, .int .i64 t506, .int .i64 t507] 23 (0, 0)) (by (with_reducible repeat (first | refine blk_drewN ?_ _ | refine blk_drew ?_ | refine blk_alloc ?_ _)); exact BK509.out)) : gb509 ≠ gb530))
                 have n9_ := Aside0.mk ((by rw [hg]; exact Nat.ne_of_gt (blk_lt (g := gb509) (o := .cells #[.int .i64 t505, .int .i64 t506, .int .i64 t507] 23 (0, 0)) (by (with_reducible repeat (first | refine blk_drewN ?_ _ | refine blk_drew ?_ | refine blk_alloc ?_ _)); exact BK509.out)) : gb530 ≠ gb509))
                 have n10_ := Aside0.mk ((by rw [hg]; exact Nat.ne_of_lt (blk_lt (g := gb514) (o := .cells #[.int .i64 t510, .int .i64 t511, .int .i64 t512] 23 (0, 0)) (by (with_reducible repeat (first | refine blk_drewN ?_ _ | refine blk_drew ?_ | refine blk_alloc ?_ _)); exact BK514.out)) : gb514 ≠ gb530))
                 have n11_ := Aside0.mk ((by rw [hg]; exact Nat.ne_of_gt (blk_lt (g := gb514) (o := .cells #[.int .i64 t510, .int .i64 t511, .int .i64 t512] 23 (0, 0)) (by (with_reducible repeat (first | refine blk_drewN ?_ _ | refine blk_drew ?_ | refine blk_alloc ?_ _)); exact BK514.out)) : gb530 ≠ gb514))
                 have n12_ := Aside0.mk ((by rw [hg]; exact Nat.ne_of_lt (blk_lt (g := gb519) (o := .cells #[.int .i64 t515, .int .i64 t516, .int .i64 t517] 23 (0, 0)) (by (with_reducible repeat (first | refine blk_drewN ?_ _ | refine blk_drew ?_ | refine blk_alloc ?_ _)); exact BK519.out)) : gb519 ≠ gb530))
                 have n13_ := Aside0.mk ((by rw [hg]; exact Nat.ne_of_gt (blk_lt (g := gb519) (o := .cells #[.int .i64 t515, .int .i64 t516, .int .i64 t517] 23 (0, 0)) (by (with_reducible repeat (first | refine blk_drewN ?_ _ | refine blk_drew ?_ | refine blk_alloc ?_ _)); exact BK519.out)) : gb530 ≠ gb519))
                 clear HO523
                 clear BK509
                 clear BK514
                 clear BK519
                 clear HB
                 have HO523 := n0_
                 have BK509 := n1_
                 have BK514 := n2_
                 have BK519 := n3_
                 have HB := n4_
                 have BK530 := n5_
                 have GW530 := n6_
                 have GE530 := n7_
                 have NB509_530 := n8_
                 have NB530_509 := n9_
                 have NB514_530 := n10_
                 have NB530_514 := n11_
                 have NB519_530 := n12_
                 have NB530_519 := n13_
                 clear n0_ n1_ n2_ n3_ n4_ n5_ n6_ n7_ n8_ n9_ n10_ n11_ n12_ n13_
                 clear hb hbox hg
                 refine hK.out _ _ ⟨(blk_cell BK509.out 0).trans rfl, (blk_cell BK509.out 1).trans rfl, (blk_cell BK509.out 2).trans rfl⟩ (fun hHeld => ?_)
                 clear hK K
                 refine norm_ (a' := ?_) ?_ ?_
                 rotate_left
                 ·show Act.put _ (some 14) _ = _
                  simp only [Act.put, sA, sB, sC, i64_w, i32_w]
                  rfl
                 exact norm_ (by simp only [putAll, Act.put, List.setIfInBounds_toArray, List.set_cons_zero, List.set_cons_succ]) (hCont (.slice Ao96 y521.length co96, gb530) _ ⟨hHeld, (by (with_reducible repeat (first | apply Kd.R_alloc | apply Kd.R_drewN | apply Kd.R_drew)); exact HO523.out), (by (with_reducible repeat (first | refine blk_drewN ?_ _ | refine blk_drew ?_ | refine blk_alloc ?_ _)); exact BK509.out), (by (with_reducible repeat (first | refine blk_drewN ?_ _ | refine blk_drew ?_ | refine blk_alloc ?_ _)); exact BK514.out), (by (with_reducible repeat (first | refine blk_drewN ?_ _ | refine blk_drew ?_ | refine blk_alloc ?_ _)); exact BK519.out), (by (with_reducible repeat (first | refine blk_drewN ?_ _ | refine blk_drew ?_ | refine blk_alloc ?_ _)); exact BK530.out), GW530.out, GE530.out, NB509_530.out, NB530_509.out, NB514_530.out, NB530_514.out, NB519_530.out, NB530_519.out, (by repeat (first | (with_reducible first | exact HB.out | apply below_alloc | apply pw_below_drewN | apply below_drew1 | refine below_set ?_ GE509.out | refine below_set ?_ GE514.out | refine below_set ?_ GE519.out | refine below_set ?_ GE530.out) | exact HB.out))⟩)
                ·skip
                 refine box_step ?hg (N := 14) ?hd (cs := #[.int .i64 0, .int .i64 0, .int .i64 0]) (t := 23) ?hr ?_; (case hd => rfl); (case hg => rfl); (case hr => first | (go_simp; done) | (go_simp; rfl))
                 intro gb530 hg w96 hbox hb
                 have n0_ := Aside0.mk (Kd.R_below (by (with_reducible repeat (first | apply Kd.R_alloc | apply Kd.R_drewN | apply Kd.R_drew)); exact HO523.out) hb)
                 have n1_ := Aside0.mk (blk_below (g := gb509) (o := .cells #[.int .i64 t505, .int .i64 t506, .int .i64 t507] 23 (0, 0)) (by (with_reducible repeat (first | refine blk_drewN ?_ _ | refine blk_drew ?_ | refine blk_alloc ?_ _)); exact BK509.out) hb)
                 have n2_ := Aside0.mk (blk_below (g := gb514) (o := .cells #[.int .i64 t510, .int .i64 t511, .int .i64 t512] 23 (0, 0)) (by (with_reducible repeat (first | refine blk_drewN ?_ _ | refine blk_drew ?_ | refine blk_alloc ?_ _)); exact BK514.out) hb)
                 have n3_ := Aside0.mk (blk_below (g := gb519) (o := .cells #[.int .i64 t515, .int .i64 t516, .int .i64 t517] 23 (0, 0)) (by (with_reducible repeat (first | refine blk_drewN ?_ _ | refine blk_drew ?_ | refine blk_alloc ?_ _)); exact BK519.out) hb)
                 have n4_ := Aside0.mk (below_step (by repeat (first | (with_reducible first | exact HB.out | apply below_alloc | apply pw_below_drewN | apply below_drew1 | refine below_set ?_ GE509.out | refine below_set ?_ GE514.out | refine below_set ?_ GE519.out) | exact HB.out)) hb)
                 have n5_ := Aside0.mk (hbox)
                 have n6_ := Aside0.mk ((by rw [hg]; exact (below_size (by repeat (first | (with_reducible first | exact HB.out | apply below_alloc | apply pw_below_drewN | apply below_drew1 | refine below_set ?_ GE509.out | refine below_set ?_ GE514.out | refine below_set ?_ GE519.out) | exact HB.out))) : w.heap.size ≤ gb530))
                 have n7_ := Aside0.mk ((by rw [hg]; exact (below_size (by repeat (first | (with_reducible first | exact HB.out | apply below_alloc | apply pw_below_drewN | apply below_drew1 | refine below_set ?_ GE509.out | refine below_set ?_ GE514.out | refine below_set ?_ GE519.out) | exact HB.out))) : w.heap.size ≤ gb530))
                 have n8_ := Aside0.mk ((by rw [hg]; exact Nat.ne_of_lt (blk_lt (g := gb509) (o := .cells #[.int .i64 t505, .int .i64 t506, .int .i64 t507] 23 (0, 0)) (by (with_reducible repeat (first | refine blk_drewN ?_ _ | refine blk_drew ?_ | refine blk_alloc ?_ _)); exact BK509.out)) : gb509 ≠ gb530))
                 have n9_ := Aside0.mk ((by rw [hg]; exact Nat.ne_of_gt (blk_lt (g := gb509) (o := .cells #[.int .i64 t505, .int .i64 t506, .int .i64 t507] 23 (0, 0)) (by (with_reducible repeat (first | refine blk_drewN ?_ _ | refine blk_drew ?_ | refine blk_alloc ?_ _)); exact BK509.out)) : gb530 ≠ gb509))
                 have n10_ := Aside0.mk ((by rw [hg]; exact Nat.ne_of_lt (blk_lt (g := gb514) (o := .cells #[.int .i64 t510, .int .i64 t511, .int .i64 t512] 23 (0, 0)) (by (with_reducible repeat (first | refine blk_drewN ?_ _ | refine blk_drew ?_ | refine blk_alloc ?_ _)); exact BK514.out)) : gb514 ≠ gb530))
                 have n11_ := Aside0.mk ((by rw [hg]; exact Nat.ne_of_gt (blk_lt (g := gb514) (o := .cells #[.int .i64 t510, .int .i64 t511, .int .i64 t512] 23 (0, 0)) (by (with_reducible repeat (first | refine blk_drewN ?_ _ | refine blk_drew ?_ | refine blk_alloc ?_ _)); exact BK514.out)) : gb530 ≠ gb514))
                 have n12_ := Aside0.mk ((by rw [hg]; exact Nat.ne_of_lt (blk_lt (g := gb519) (o := .cells #[.int .i64 t515, .int .i64 t516, .int .i64 t517] 23 (0, 0)) (by (with_reducible repeat (first | refine blk_drewN ?_ _ | refine blk_drew ?_ | refine blk_alloc ?_ _)); exact BK519.out)) : gb519 ≠ gb530))
                 have n13_ := Aside0.mk ((by rw [hg]; exact Nat.ne_of_gt (blk_lt (g := gb519) (o := .cells #[.int .i64 t515, .int .i64 t516, .int .i64 t517] 23 (0, 0)) (by (with_reducible repeat (first | refine blk_drewN ?_ _ | refine blk_drew ?_ | refine blk_alloc ?_ _)); exact BK519.out)) : gb530 ≠ gb519))
                 clear HO523
                 clear BK509
                 clear BK514
                 clear BK519
                 clear HB
                 have HO523 := n0_
                 have BK509 := n1_
                 have BK514 := n2_
                 have BK519 := n3_
                 have HB := n4_
                 have BK530 := n5_
                 have GW530 := n6_
                 have GE530 := n7_
                 have NB509_530 := n8_
                 have NB530_509 := n9_
                 have NB514_530 := n10_
                 have NB530_514 := n11_
                 have NB519_530 := n12_
                 have NB530_519 := n13_
                 clear n0_ n1_ n2_ n3_ n4_ n5_ n6_ n7_ n8_ n9_ n10_ n11_ n12_ n13_
                 clear hb hbox hg
                 obtain ⟨Ao97, co97, eo97⟩ := Kd.R_slice HO523.out
                 (first | subst eo97 | (injection eo97 with f1_ f2_ f3_; have f4_ := f1_.symm; have f5_ := f3_.symm; clear f1_ f2_ f3_; subst f4_; subst f5_))
                 refine hK.out _ _ ⟨(blk_cell BK509.out 0).trans rfl, (blk_cell BK509.out 1).trans rfl, (blk_cell BK509.out 2).trans rfl⟩ (fun hHeld => ?_)
                 clear hK K
                 refine norm_ (a' := ?_) ?_ ?_
                 rotate_left
                 ·show Act.put _ (some 14) _ = _
                  simp only [Act.put, sA, sB, sC, i64_w, i32_w]
                  rfl
                 refine one_ (i := 4) (N := some 40) #[X,X,X,X,X,Z,Z,Z,Z,Z,X,Z,Z,Z,Z] rfl rfl (one_of HT_.out (by kernel_rfl)) (by decide) (fun K hK => ?_)
                 refine goes_ Try.func11 (by kernel_rfl) rfl #[.agg #[.int .i64 t505, .int .i64 t506, .int .i64 t507], .slice Ao97 y521.length co97] (by rfl) rfl rfl (by (try simp only [List.map_toArray, List.map_cons, List.map_nil]); first | done | rfl | (simp only [List.length_drop, List.length_take]; rfl)) ?_
                 with_reducible refine (panel_Swing.calls k t505 t506 t507 _ _ y521 t524 t525 t526 t527 t528 t529 _ ?side1 ?side2 A11.out).mono ?_
                 (case side1 => repeat (first | exact (Kd.R_reads' HO523.out).2.2 | (with_reducible refine Kd.C_alloc ?_ _) | (with_reducible refine Kd.C_drewN ?_ _) | (with_reducible refine Kd.C_drew ?_)))
                 (case side2 => exact (Kd.R_reads' HO523.out).2.1)
                 rintro e w98 ⟨rfl, hb⟩
                 refine ⟨_, rfl, ?_⟩
                 have n0_ := Aside0.mk (Kd.R_below (by (with_reducible repeat (first | apply Kd.R_alloc | apply Kd.R_drewN | apply Kd.R_drew)); exact HO523.out) hb)
                 have n1_ := Aside0.mk (blk_below (g := gb509) (o := .cells #[.int .i64 t505, .int .i64 t506, .int .i64 t507] 23 (0, 0)) (by (with_reducible repeat (first | refine blk_drewN ?_ _ | refine blk_drew ?_ | refine blk_alloc ?_ _)); exact BK509.out) hb)
                 have n2_ := Aside0.mk (blk_below (g := gb514) (o := .cells #[.int .i64 t510, .int .i64 t511, .int .i64 t512] 23 (0, 0)) (by (with_reducible repeat (first | refine blk_drewN ?_ _ | refine blk_drew ?_ | refine blk_alloc ?_ _)); exact BK514.out) hb)
                 have n3_ := Aside0.mk (blk_below (g := gb519) (o := .cells #[.int .i64 t515, .int .i64 t516, .int .i64 t517] 23 (0, 0)) (by (with_reducible repeat (first | refine blk_drewN ?_ _ | refine blk_drew ?_ | refine blk_alloc ?_ _)); exact BK519.out) hb)
                 have n4_ := Aside0.mk (blk_below (g := gb530) (o := .cells #[.int .i64 0, .int .i64 0, .int .i64 0] 23 (0, 0)) (by (with_reducible repeat (first | refine blk_drewN ?_ _ | refine blk_drew ?_ | refine blk_alloc ?_ _)); exact BK530.out) hb)
                 have n5_ := Aside0.mk (below_step (by repeat (first | (with_reducible first | exact HB.out | apply below_alloc | apply pw_below_drewN | apply below_drew1 | refine below_set ?_ GE509.out | refine below_set ?_ GE514.out | refine below_set ?_ GE519.out | refine below_set ?_ GE530.out) | exact HB.out)) hb)
                 clear HO523
                 clear BK509
                 clear BK514
                 clear BK519
                 clear BK530
                 clear HB
                 have HO523 := n0_
                 have BK509 := n1_
                 have BK514 := n2_
                 have BK519 := n3_
                 have BK530 := n4_
                 have HB := n5_
                 clear n0_ n1_ n2_ n3_ n4_ n5_
                 (try clear hb)
                 (try clear hb2)
                 (try clear hk)
                 (try clear hi)
                 refine hK.out _ _ ⟨(blk_cell BK509.out 0).trans rfl, (blk_cell BK509.out 1).trans rfl, (blk_cell BK509.out 2).trans rfl⟩ (fun hHeld => ?_)
                 clear hK K
                 refine norm_ (a' := ?_) ?_ ?_
                 rotate_left
                 ·show Act.put _ (some 40) _ = _
                  simp only [Act.put, sA, sB, sC, i64_w, i32_w]
                  rfl
                 refine pure_ (i := 5) (N := some 35) (v := ?_) (a' := ?_) #[X,X,X,X,X,X,Z,Z,Z,Z,X,Z,Z,Z,Z] rfl rfl (any_of HT_.out (by kernel_rfl)) (fun _ _ _ h => h) (Or.inl ⟨by rfl, ?_⟩) ?_ ?_
                 rotate_left
                 ·intro w'
                  go_simp
                  with_reducible rfl
                 rotate_left
                 ·simp only [Act.put, sA, sB, sC, i64_w, i32_w]
                  rfl
                 refine pure_ (i := 6) (N := some 41) (v := ?_) (a' := ?_) #[X,X,X,X,X,X,X,Z,Z,Z,X,Z,Z,Z,Z] rfl rfl (any_of HT_.out (by kernel_rfl)) (fun _ _ _ h => h) (Or.inl ⟨by rfl, ?_⟩) ?_ ?_
                 rotate_left
                 ·intro w'
                  go_simp
                  with_reducible rfl
                 rotate_left
                 ·simp only [Act.put, sA, sB, sC, i64_w, i32_w]
                  rfl
                 refine pure_ (i := 7) (N := some 42) (v := ?_) (a' := ?_) #[X,X,X,X,X,X,X,X,Z,Z,X,Z,Z,Z,Z] rfl rfl (any_of HT_.out (by kernel_rfl)) (fun _ _ _ h => h) (Or.inl ⟨by rfl, ?_⟩) ?_ ?_
                 rotate_left
                 ·intro w'
                  go_simp
                  with_reducible rfl
                 rotate_left
                 ·simp only [Act.put, sA, sB, sC, i64_w, i32_w]
                  rfl
                 refine pure_ (i := 8) (N := some 43) (v := ?_) (a' := ?_) #[X,X,X,X,X,X,X,X,X,Z,X,Z,Z,Z,Z] rfl rfl (any_of HT_.out (by kernel_rfl)) (fun _ _ _ h => h) (Or.inl ⟨by rfl, ?_⟩) ?_ ?_
                 rotate_left
                 ·intro w'
                  go_simp
                  with_reducible rfl
                 rotate_left
                 ·simp only [Act.put, sA, sB, sC, i64_w, i32_w]
                  rfl
                 refine pure_ (i := 9) (N := some 44) (v := ?_) (a' := ?_) #[X,X,X,X,X,X,X,X,X,X,X,Z,Z,Z,Z] rfl rfl (any_of HT_.out (by kernel_rfl)) (fun _ _ _ h => h) (Or.inl ⟨by rfl, ?_⟩) ?_ ?_
                 rotate_left
                 ·intro w'
                  go_simp
                  with_reducible rfl
                 rotate_left
                 ·simp only [Act.put, sA, sB, sC, i64_w, i32_w]
                  rfl
                 exact norm_ (by simp only [putAll, Act.put, List.setIfInBounds_toArray, List.set_cons_zero, List.set_cons_succ]) (hCont (.slice Ao97 y521.length co97, gb530) _ ⟨hHeld, (by (with_reducible repeat (first | apply Kd.R_alloc | apply Kd.R_drewN | apply Kd.R_drew)); exact HO523.out), (by (with_reducible repeat (first | refine blk_drewN ?_ _ | refine blk_drew ?_ | refine blk_alloc ?_ _)); exact BK509.out), (by (with_reducible repeat (first | refine blk_drewN ?_ _ | refine blk_drew ?_ | refine blk_alloc ?_ _)); exact BK514.out), (by (with_reducible repeat (first | refine blk_drewN ?_ _ | refine blk_drew ?_ | refine blk_alloc ?_ _)); exact BK519.out), (by (with_reducible repeat (first | refine blk_drewN ?_ _ | refine blk_drew ?_ | refine blk_alloc ?_ _)); exact BK530.out), GW530.out, GE530.out, NB509_530.out, NB530_509.out, NB514_530.out, NB530_514.out, NB519_530.out, NB530_519.out, (by repeat (first | (with_reducible first | exact HB.out | apply below_alloc | apply pw_below_drewN | apply below_drew1 | refine below_set ?_ GE509.out | refine below_set ?_ GE514.out | refine below_set ?_ GE519.out | refine below_set ?_ GE530.out) | exact HB.out))⟩)
               ·skip
                refine box_step ?hg (N := 14) ?hd (cs := #[.int .i64 0, .int .i64 0, .int .i64 0]) (t := 23) ?hr ?_; (case hd => rfl); (case hg => rfl); (case hr => first | (go_simp; done) | (go_simp; rfl))
                intro gb530 hg w94 hbox hb
                have n0_ := Aside0.mk (blk_below (g := gb509) (o := .cells #[.int .i64 t505, .int .i64 t506, .int .i64 t507] 23 (0, 0)) (by (with_reducible repeat (first | refine blk_drewN ?_ _ | refine blk_drew ?_ | refine blk_alloc ?_ _)); exact BK509.out) hb)
                have n1_ := Aside0.mk (blk_below (g := gb514) (o := .cells #[.int .i64 t510, .int .i64 t511, .int .i64 t512] 23 (0, 0)) (by (with_reducible repeat (first | refine blk_drewN ?_ _ | refine blk_drew ?_ | refine blk_alloc ?_ _)); exact BK514.out) hb)
                have n2_ := Aside0.mk (blk_below (g := gb519) (o := .cells #[.int .i64 t515, .int .i64 t516, .int .i64 t517] 23 (0, 0)) (by (with_reducible repeat (first | refine blk_drewN ?_ _ | refine blk_drew ?_ | refine blk_alloc ?_ _)); exact BK519.out) hb)
                have n3_ := Aside0.mk (below_step (by repeat (first | (with_reducible first | exact HB.out | apply below_alloc | apply pw_below_drewN | apply below_drew1 | refine below_set ?_ GE509.out | refine below_set ?_ GE514.out | refine below_set ?_ GE519.out) | exact HB.out)) hb)
                have n4_ := Aside0.mk (hbox)
                have n5_ := Aside0.mk ((by rw [hg]; exact (below_size (by repeat (first | (with_reducible first | exact HB.out | apply below_alloc | apply pw_below_drewN | apply below_drew1 | refine below_set ?_ GE509.out | refine below_set ?_ GE514.out | refine below_set ?_ GE519.out) | exact HB.out))) : w.heap.size ≤ gb530))
                have n6_ := Aside0.mk ((by rw [hg]; exact (below_size (by repeat (first | (with_reducible first | exact HB.out | apply below_alloc | apply pw_below_drewN | apply below_drew1 | refine below_set ?_ GE509.out | refine below_set ?_ GE514.out | refine below_set ?_ GE519.out) | exact HB.out))) : w.heap.size ≤ gb530))
                have n7_ := Aside0.mk ((by rw [hg]; exact Nat.ne_of_lt (blk_lt (g := gb509) (o := .cells #[.int .i64 t505, .int .i64 t506, .int .i64 t507] 23 (0, 0)) (by (with_reducible repeat (first | refine blk_drewN ?_ _ | refine blk_drew ?_ | refine blk_alloc ?_ _)); exact BK509.out)) : gb509 ≠ gb530))
                have n8_ := Aside0.mk ((by rw [hg]; exact Nat.ne_of_gt (blk_lt (g := gb509) (o := .cells #[.int .i64 t505, .int .i64 t506, .int .i64 t507] 23 (0, 0)) (by (with_reducible repeat (first | refine blk_drewN ?_ _ | refine blk_drew ?_ | refine blk_alloc ?_ _)); exact BK509.out)) : gb530 ≠ gb509))
                have n9_ := Aside0.mk ((by rw [hg]; exact Nat.ne_of_lt (blk_lt (g := gb514) (o := .cells #[.int .i64 t510, .int .i64 t511, .int .i64 t512] 23 (0, 0)) (by (with_reducible repeat (first | refine blk_drewN ?_ _ | refine blk_drew ?_ | refine blk_alloc ?_ _)); exact BK514.out)) : gb514 ≠ gb530))
                have n10_ := Aside0.mk ((by rw [hg]; exact Nat.ne_of_gt (blk_lt (g := gb514) (o := .cells #[.int .i64 t510, .int .i64 t511, .int .i64 t512] 23 (0, 0)) (by (with_reducible repeat (first | refine blk_drewN ?_ _ | refine blk_drew ?_ | refine blk_alloc ?_ _)); exact BK514.out)) : gb530 ≠ gb514))
                have n11_ := Aside0.mk ((by rw [hg]; exact Nat.ne_of_lt (blk_lt (g := gb519) (o := .cells #[.int .i64 t515, .int .i64 t516, .int .i64 t517] 23 (0, 0)) (by (with_reducible repeat (first | refine blk_drewN ?_ _ | refine blk_drew ?_ | refine blk_alloc ?_ _)); exact BK519.out)) : gb519 ≠ gb530))
                have n12_ := Aside0.mk ((by rw [hg]; exact Nat.ne_of_gt (blk_lt (g := gb519) (o := .cells #[.int .i64 t515, .int .i64 t516, .int .i64 t517] 23 (0, 0)) (by (with_reducible repeat (first | refine blk_drewN ?_ _ | refine blk_drew ?_ | refine blk_alloc ?_ _)); exact BK519.out)) : gb530 ≠ gb519))
                clear BK509
                clear BK514
                clear BK519
                clear HB
                have BK509 := n0_
                have BK514 := n1_
                have BK519 := n2_
                have HB := n3_
                have BK530 := n4_
                have GW530 := n5_
                have GE530 := n6_
                have NB509_530 := n7_
                have NB530_509 := n8_
                have NB514_530 := n9_
                have NB530_514 := n10_
                have NB519_530 := n11_
                have NB530_519 := n12_
                clear n0_ n1_ n2_ n3_ n4_ n5_ n6_ n7_ n8_ n9_ n10_ n11_ n12_
                clear hb hbox hg
                refine hK.out _ _ ⟨(blk_cell BK509.out 0).trans rfl, (blk_cell BK509.out 1).trans rfl, (blk_cell BK509.out 2).trans rfl⟩ (fun hHeld => ?_)
                clear hK K
                refine norm_ (a' := ?_) ?_ ?_
                rotate_left
                ·show Act.put _ (some 14) _ = _
                 simp only [Act.put, sA, sB, sC, i64_w, i32_w]
                 rfl
                refine one_ (i := 3) (N := some 39) #[X,X,X,X,Z,Z,Z,Z,Z,Z,X,Z,Z,Z,Z] rfl rfl (one_of HT_.out (by kernel_rfl)) (by decide) (fun K hK => ?_)
                refine Kd.R_make_step (Kd.int .i64) _ 3 (by rfl) (N := 39) rfl 24 _ _ rfl t520 rfl rfl Try.underlying24 (.int .i64 0) 8 info3 rfl (by decide) (by omega) 0 (ok := fun _ => True) (okp := fun _ => True) rfl (fun _ hk => hk) trivial (of_decide_eq_true (by first | (with_reducible assumption) | assumption)) (Nat.le_trans (Nat.mul_le_mul_right _ (of_decide_eq_true (by first | (with_reducible assumption) | assumption) : t520.toNat ≤ 35184372088832)) (by omega)) (Below.refl _ _) (Nat.le_refl _) ?_
                intro v522 w95 ho96 hb hg_ hnew_
                clear hg_ hnew_
                (first | rw [← Ny521.out] at ho96 | (simp only [Int.reduceToNat] at ho96; rw [← Ny521.out] at ho96))
                have n0_ := Aside0.mk (Kd.R_lower ho96 (below_size (by repeat (first | (with_reducible first | exact HB.out | apply below_alloc | apply pw_below_drewN | apply below_drew1 | refine below_set ?_ GE509.out | refine below_set ?_ GE514.out | refine below_set ?_ GE519.out | refine below_set ?_ GE530.out) | exact HB.out))))
                have n1_ := Aside0.mk (blk_below (g := gb509) (o := .cells #[.int .i64 t505, .int .i64 t506, .int .i64 t507] 23 (0, 0)) (by (with_reducible repeat (first | refine blk_drewN ?_ _ | refine blk_drew ?_ | refine blk_alloc ?_ _)); exact BK509.out) hb)
                have n2_ := Aside0.mk (blk_below (g := gb514) (o := .cells #[.int .i64 t510, .int .i64 t511, .int .i64 t512] 23 (0, 0)) (by (with_reducible repeat (first | refine blk_drewN ?_ _ | refine blk_drew ?_ | refine blk_alloc ?_ _)); exact BK514.out) hb)
                have n3_ := Aside0.mk (blk_below (g := gb519) (o := .cells #[.int .i64 t515, .int .i64 t516, .int .i64 t517] 23 (0, 0)) (by (with_reducible repeat (first | refine blk_drewN ?_ _ | refine blk_drew ?_ | refine blk_alloc ?_ _)); exact BK519.out) hb)
                have n4_ := Aside0.mk (blk_below (g := gb530) (o := .cells #[.int .i64 0, .int .i64 0, .int .i64 0] 23 (0, 0)) (by (with_reducible repeat (first | refine blk_drewN ?_ _ | refine blk_drew ?_ | refine blk_alloc ?_ _)); exact BK530.out) hb)
                have n5_ := Aside0.mk (below_step (by repeat (first | (with_reducible first | exact HB.out | apply below_alloc | apply pw_below_drewN | apply below_drew1 | refine below_set ?_ GE509.out | refine below_set ?_ GE514.out | refine below_set ?_ GE519.out | refine below_set ?_ GE530.out) | exact HB.out)) hb)
                clear BK509
                clear BK514
                clear BK519
                clear BK530
                clear HB
                have HO523 := n0_
                have BK509 := n1_
                have BK514 := n2_
                have BK519 := n3_
                have BK530 := n4_
                have HB := n5_
                clear n0_ n1_ n2_ n3_ n4_ n5_
                clear hb ho96
                obtain ⟨Ao97, co97, eo97⟩ := Kd.R_slice HO523.out
                (first | subst eo97 | (injection eo97 with f1_ f2_ f3_; have f4_ := f1_.symm; have f5_ := f3_.symm; clear f1_ f2_ f3_; subst f4_; subst f5_))
                refine hK.out _ _ ⟨(blk_cell BK509.out 0).trans rfl, (blk_cell BK509.out 1).trans rfl, (blk_cell BK509.out 2).trans rfl⟩ (fun hHeld => ?_)
                clear hK K
                refine norm_ (a' := ?_) ?_ ?_
                rotate_left
                ·show Act.put _ (some 39) _ = _
                 simp only [Act.put, sA, sB, sC, i64_w, i32_w]
                 rfl
                refine one_ (i := 4) (N := some 40) #[X,X,X,X,X,Z,Z,Z,Z,Z,X,Z,Z,Z,Z] rfl rfl (one_of HT_.out (by kernel_rfl)) (by decide) (fun K hK => ?_)
                refine goes_ Try.func11 (by kernel_rfl) rfl #[.agg #[.int .i64 t505, .int .i64 t506, .int .i64 t507], .slice Ao97 y521.length co97] (by rfl) rfl rfl (by (try simp only [List.map_toArray, List.map_cons, List.map_nil]); first | done | rfl | (simp only [List.length_drop, List.length_take]; rfl)) ?_
                with_reducible refine (panel_Swing.calls k t505 t506 t507 _ _ y521 t524 t525 t526 t527 t528 t529 _ ?side1 ?side2 A11.out).mono ?_
                (case side1 => repeat (first | exact (Kd.R_reads' HO523.out).2.2 | (with_reducible refine Kd.C_alloc ?_ _) | (with_reducible refine Kd.C_drewN ?_ _) | (with_reducible refine Kd.C_drew ?_)))
                (case side2 => exact (Kd.R_reads' HO523.out).2.1)
                rintro e w98 ⟨rfl, hb⟩
                refine ⟨_, rfl, ?_⟩
                have n0_ := Aside0.mk (Kd.R_below (by (with_reducible repeat (first | apply Kd.R_alloc | apply Kd.R_drewN | apply Kd.R_drew)); exact HO523.out) hb)
                have n1_ := Aside0.mk (blk_below (g := gb509) (o := .cells #[.int .i64 t505, .int .i64 t506, .int .i64 t507] 23 (0, 0)) (by (with_reducible repeat (first | refine blk_drewN ?_ _ | refine blk_drew ?_ | refine blk_alloc ?_ _)); exact BK509.out) hb)
                have n2_ := Aside0.mk (blk_below (g := gb514) (o := .cells #[.int .i64 t510, .int .i64 t511, .int .i64 t512] 23 (0, 0)) (by (with_reducible repeat (first | refine blk_drewN ?_ _ | refine blk_drew ?_ | refine blk_alloc ?_ _)); exact BK514.out) hb)
                have n3_ := Aside0.mk (blk_below (g := gb519) (o := .cells #[.int .i64 t515, .int .i64 t516, .int .i64 t517] 23 (0, 0)) (by (with_reducible repeat (first | refine blk_drewN ?_ _ | refine blk_drew ?_ | refine blk_alloc ?_ _)); exact BK519.out) hb)
                have n4_ := Aside0.mk (blk_below (g := gb530) (o := .cells #[.int .i64 0, .int .i64 0, .int .i64 0] 23 (0, 0)) (by (with_reducible repeat (first | refine blk_drewN ?_ _ | refine blk_drew ?_ | refine blk_alloc ?_ _)); exact BK530.out) hb)
                have n5_ := Aside0.mk (below_step (by repeat (first | (with_reducible first | exact HB.out | apply below_alloc | apply pw_below_drewN | apply below_drew1 | refine below_set ?_ GE509.out | refine below_set ?_ GE514.out | refine below_set ?_ GE519.out | refine below_set ?_ GE530.out) | exact HB.out)) hb)
                clear HO523
                clear BK509
                clear BK514
                clear BK519
                clear BK530
                clear HB
                have HO523 := n0_
                have BK509 := n1_
                have BK514 := n2_
                have BK519 := n3_
                have BK530 := n4_
                have HB := n5_
                clear n0_ n1_ n2_ n3_ n4_ n5_
                (try clear hb)
                (try clear hb2)
                (try clear hk)
                (try clear hi)
                refine hK.out _ _ ⟨(blk_cell BK509.out 0).trans rfl, (blk_cell BK509.out 1).trans rfl, (blk_cell BK509.out 2).trans rfl⟩ (fun hHeld => ?_)
                clear hK K
                refine norm_ (a' := ?_) ?_ ?_
                rotate_left
                ·show Act.put _ (some 40) _ = _
                 simp only [Act.put, sA, sB, sC, i64_w, i32_w]
                 rfl
                refine pure_ (i := 5) (N := some 35) (v := ?_) (a' := ?_) #[X,X,X,X,X,X,Z,Z,Z,Z,X,Z,Z,Z,Z] rfl rfl (any_of HT_.out (by kernel_rfl)) (fun _ _ _ h => h) (Or.inl ⟨by rfl, ?_⟩) ?_ ?_
                rotate_left
                ·intro w'
                 go_simp
                 with_reducible rfl
                rotate_left
                ·simp only [Act.put, sA, sB, sC, i64_w, i32_w]
                 rfl
                refine pure_ (i := 6) (N := some 41) (v := ?_) (a' := ?_) #[X,X,X,X,X,X,X,Z,Z,Z,X,Z,Z,Z,Z] rfl rfl (any_of HT_.out (by kernel_rfl)) (fun _ _ _ h => h) (Or.inl ⟨by rfl, ?_⟩) ?_ ?_
                rotate_left
                ·intro w'
                 go_simp
                 with_reducible rfl
                rotate_left
                ·simp only [Act.put, sA, sB, sC, i64_w, i32_w]
                 rfl
                refine pure_ (i := 7) (N := some 42) (v := ?_) (a' := ?_) #[X,X,X,X,X,X,X,X,Z,Z,X,Z,Z,Z,Z] rfl rfl (any_of HT_.out (by kernel_rfl)) (fun _ _ _ h => h) (Or.inl ⟨by rfl, ?_⟩) ?_ ?_
                rotate_left
                ·intro w'
                 go_simp
                 with_reducible rfl
                rotate_left
                ·simp only [Act.put, sA, sB, sC, i64_w, i32_w]
                 rfl
                refine pure_ (i := 8) (N := some 43) (v := ?_) (a' := ?_) #[X,X,X,X,X,X,X,X,X,Z,X,Z,Z,Z,Z] rfl rfl (any_of HT_.out (by kernel_rfl)) (fun _ _ _ h => h) (Or.inl ⟨by rfl, ?_⟩) ?_ ?_
                rotate_left
                ·intro w'
                 go_simp
                 with_reducible rfl
                rotate_left
                ·simp only [Act.put, sA, sB, sC, i64_w, i32_w]
                 rfl
                refine pure_ (i := 9) (N := some 44) (v := ?_) (a' := ?_) #[X,X,X,X,X,X,X,X,X,X,X,Z,Z,Z,Z] rfl rfl (any_of HT_.out (by kernel_rfl)) (fun _ _ _ h => h) (Or.inl ⟨by rfl, ?_⟩) ?_ ?_
                rotate_left
                ·intro w'
                 go_simp
                 with_reducible rfl
                rotate_left
                ·simp only [Act.put, sA, sB, sC, i64_w, i32_w]
                 rfl
                exact norm_ (by simp only [putAll, Act.put, List.setIfInBounds_toArray, List.set_cons_zero, List.set_cons_succ]) (hCont (.slice Ao97 y521.length co97, gb530) _ ⟨hHeld, (by (with_reducible repeat (first | apply Kd.R_alloc | apply Kd.R_drewN | apply Kd.R_drew)); exact HO523.out), (by (with_reducible repeat (first | refine blk_drewN ?_ _ | refine blk_drew ?_ | refine blk_alloc ?_ _)); exact BK509.out), (by (with_reducible repeat (first | refine blk_drewN ?_ _ | refine blk_drew ?_ | refine blk_alloc ?_ _)); exact BK514.out), (by (with_reducible repeat (first | refine blk_drewN ?_ _ | refine blk_drew ?_ | refine blk_alloc ?_ _)); exact BK519.out), (by (with_reducible repeat (first | refine blk_drewN ?_ _ | refine blk_drew ?_ | refine blk_alloc ?_ _)); exact BK530.out), GW530.out, GE530.out, NB509_530.out, NB530_509.out, NB514_530.out, NB530_514.out, NB519_530.out, NB530_519.out, (by repeat (first | (with_reducible first | exact HB.out | apply below_alloc | apply pw_below_drewN | apply below_drew1 | refine below_set ?_ GE509.out | refine below_set ?_ GE514.out | refine below_set ?_ GE519.out | refine below_set ?_ GE530.out) | exact HB.out))⟩)
              ·skip
               refine box_step ?hg (N := 14) ?hd (cs := #[.int .i64 0, .int .i64 0, .int .i64 0]) (t := 23) ?hr ?_; (case hd => rfl); (case hg => rfl); (case hr => first | (go_simp; done) | (go_simp; rfl))
               intro gb530 hg w94 hbox hb
               have n0_ := Aside0.mk (blk_below (g := gb509) (o := .cells #[.int .i64 t505, .int .i64 t506, .int .i64 t507] 23 (0, 0)) (by (with_reducible repeat (first | refine blk_drewN ?_ _ | refine blk_drew ?_ | refine blk_alloc ?_ _)); exact BK509.out) hb)
               have n1_ := Aside0.mk (blk_below (g := gb514) (o := .cells #[.int .i64 t510, .int .i64 t511, .int .i64 t512] 23 (0, 0)) (by (with_reducible repeat (first | refine blk_drewN ?_ _ | refine blk_drew ?_ | refine blk_alloc ?_ _)); exact BK514.out) hb)
               have n2_ := Aside0.mk (blk_below (g := gb519) (o := .cells #[.int .i64 t515, .int .i64 t516, .int .i64 t517] 23 (0, 0)) (by (with_reducible repeat (first | refine blk_drewN ?_ _ | refine blk_drew ?_ | refine blk_alloc ?_ _)); exact BK519.out) hb)
               have n3_ := Aside0.mk (below_step (by repeat (first | (with_reducible first | exact HB.out | apply below_alloc | apply pw_below_drewN | apply below_drew1 | refine below_set ?_ GE509.out | refine below_set ?_ GE514.out | refine below_set ?_ GE519.out) | exact HB.out)) hb)
               have n4_ := Aside0.mk (hbox)
               have n5_ := Aside0.mk ((by rw [hg]; exact (below_size (by repeat (first | (with_reducible first | exact HB.out | apply below_alloc | apply pw_below_drewN | apply below_drew1 | refine below_set ?_ GE509.out | refine below_set ?_ GE514.out | refine below_set ?_ GE519.out) | exact HB.out))) : w.heap.size ≤ gb530))
               have n6_ := Aside0.mk ((by rw [hg]; exact (below_size (by repeat (first | (with_reducible first | exact HB.out | apply below_alloc | apply pw_below_drewN | apply below_drew1 | refine below_set ?_ GE509.out | refine below_set ?_ GE514.out | refine below_set ?_ GE519.out) | exact HB.out))) : w.heap.size ≤ gb530))
               have n7_ := Aside0.mk ((by rw [hg]; exact Nat.ne_of_lt (blk_lt (g := gb509) (o := .cells #[.int .i64 t505, .int .i64 t506, .int .i64 t507] 23 (0, 0)) (by (with_reducible repeat (first | refine blk_drewN ?_ _ | refine blk_drew ?_ | refine blk_alloc ?_ _)); exact BK509.out)) : gb509 ≠ gb530))
               have n8_ := Aside0.mk ((by rw [hg]; exact Nat.ne_of_gt (blk_lt (g := gb509) (o := .cells #[.int .i64 t505, .int .i64 t506, .int .i64 t507] 23 (0, 0)) (by (with_reducible repeat (first | refine blk_drewN ?_ _ | refine blk_drew ?_ | refine blk_alloc ?_ _)); exact BK509.out)) : gb530 ≠ gb509))
               have n9_ := Aside0.mk ((by rw [hg]; exact Nat.ne_of_lt (blk_lt (g := gb514) (o := .cells #[.int .i64 t510, .int .i64 t511, .int .i64 t512] 23 (0, 0)) (by (with_reducible repeat (first | refine blk_drewN ?_ _ | refine blk_drew ?_ | refine blk_alloc ?_ _)); exact BK514.out)) : gb514 ≠ gb530))
               have n10_ := Aside0.mk ((by rw [hg]; exact Nat.ne_of_gt (blk_lt (g := gb514) (o := .cells #[.int .i64 t510, .int .i64 t511, .int .i64 t512] 23 (0, 0)) (by (with_reducible repeat (first | refine blk_drewN ?_ _ | refine blk_drew ?_ | refine blk_alloc ?_ _)); exact BK514.out)) : gb530 ≠ gb514))
               have n11_ := Aside0.mk ((by rw [hg]; exact Nat.ne_of_lt (blk_lt (g := gb519) (o := .cells #[.int .i64 t515, .int .i64 t516, .int .i64 t517] 23 (0, 0)) (by (with_reducible repeat (first | refine blk_drewN ?_ _ | refine blk_drew ?_ | refine blk_alloc ?_ _)); exact BK519.out)) : gb519 ≠ gb530))
               have n12_ := Aside0.mk ((by rw [hg]; exact Nat.ne_of_gt (blk_lt (g := gb519) (o := .cells #[.int .i64 t515, .int .i64 t516, .int .i64 t517] 23 (0, 0)) (by (with_reducible repeat (first | refine blk_drewN ?_ _ | refine blk_drew ?_ | refine blk_alloc ?_ _)); exact BK519.out)) : gb530 ≠ gb519))
               clear BK509
               clear BK514
               clear BK519
               clear HB
               have BK509 := n0_
               have BK514 := n1_
               have BK519 := n2_
               have HB := n3_
               have BK530 := n4_
               have GW530 := n5_
               have GE530 := n6_
               have NB509_530 := n7_
               have NB530_509 := n8_
               have NB514_530 := n9_
               have NB530_514 := n10_
               have NB519_530 := n11_
               have NB530_519 := n12_
               clear n0_ n1_ n2_ n3_ n4_ n5_ n6_ n7_ n8_ n9_ n10_ n11_ n12_
               clear hb hbox hg
               refine hK.out _ _ ⟨(blk_cell BK509.out 0).trans rfl, (blk_cell BK509.out 1).trans rfl, (blk_cell BK509.out 2).trans rfl⟩ (fun hHeld => ?_)
               clear hK K
               refine norm_ (a' := ?_) ?_ ?_
               rotate_left
               ·show Act.put _ (some 14) _ = _
                simp only [Act.put, sA, sB, sC, i64_w, i32_w]
                rfl
               refine one_ (i := 2) (N := some 38) #[X,X,X,Z,Z,Z,Z,Z,Z,Z,X,Z,Z,Z,Z] rfl rfl (one_of HT_.out (by kernel_rfl)) (by decide) (fun K hK => ?_)
               refine goes_ Try.func26 (by kernel_rfl) rfl #[.int .i64 a2, .int .i64 60] (by rfl) rfl rfl (by (try simp only [List.map_toArray, List.map_cons, List.map_nil]); first | done | rfl | (simp only [List.length_drop, List.length_take]; rfl)) ?_
               with_reducible refine (tipstaffkit_Mod.calls a2 60 t520 _ A8.out).mono ?_
               rintro e w' ⟨rfl, ⟨nd, rfl⟩⟩
               refine ⟨_, rfl, ?_⟩
               refine hK.out _ _ ⟨(blk_cell BK509.out 0).trans rfl, (blk_cell BK509.out 1).trans rfl, (blk_cell BK509.out 2).trans rfl⟩ (fun hHeld => ?_)
               clear hK K
               refine norm_ (a' := ?_) ?_ ?_
               rotate_left
               ·show Act.put _ (some 38) _ = _
                simp only [Act.put, sA, sB, sC, i64_w, i32_w]
                rfl
               refine one_ (i := 3) (N := some 39) #[X,X,X,X,Z,Z,Z,Z,Z,Z,X,Z,Z,Z,Z] rfl rfl (one_of HT_.out (by kernel_rfl)) (by decide) (fun K hK => ?_)
               refine Kd.R_make_step (Kd.int .i64) _ 3 (by rfl) (N := 39) rfl 24 _ _ rfl t520 rfl rfl Try.underlying24 (.int .i64 0) 8 info3 rfl (by decide) (by omega) 0 (ok := fun _ => True) (okp := fun _ => True) rfl (fun _ hk => hk) trivial (of_decide_eq_true (by first | (with_reducible assumption) | assumption)) (Nat.le_trans (Nat.mul_le_mul_right _ (of_decide_eq_true (by first | (with_reducible assumption) | assumption) : t520.toNat ≤ 35184372088832)) (by omega)) (Below.refl _ _) (Nat.le_refl _) ?_
               intro v522 w95 ho96 hb hg_ hnew_
               clear hg_ hnew_
               (first | rw [← Ny521.out] at ho96 | (simp only [Int.reduceToNat] at ho96; rw [← Ny521.out] at ho96))
               have n0_ := Aside0.mk (Kd.R_lower ho96 (below_size (by repeat (first | (with_reducible first | exact HB.out | apply below_alloc | apply pw_below_drewN | apply below_drew1 | refine below_set ?_ GE509.out | refine below_set ?_ GE514.out | refine below_set ?_ GE519.out | refine below_set ?_ GE530.out) | exact HB.out))))
               have n1_ := Aside0.mk (blk_below (g := gb509) (o := .cells #[.int .i64 t505, .int .i64 t506, .int .i64 t507] 23 (0, 0)) (by (with_reducible repeat (first | refine blk_drewN ?_ _ | refine blk_drew ?_ | refine blk_alloc ?_ _)); exact BK509.out) hb)
               have n2_ := Aside0.mk (blk_below (g := gb514) (o := .cells #[.int .i64 t510, .int .i64 t511, .int .i64 t512] 23 (0, 0)) (by (with_reducible repeat (first | refine blk_drewN ?_ _ | refine blk_drew ?_ | refine blk_alloc ?_ _)); exact BK514.out) hb)
               have n3_ := Aside0.mk (blk_below (g := gb519) (o := .cells #[.int .i64 t515, .int .i64 t516, .int .i64 t517] 23 (0, 0)) (by (with_reducible repeat (first | refine blk_drewN ?_ _ | refine blk_drew ?_ | refine blk_alloc ?_ _)); exact BK519.out) hb)
               have n4_ := Aside0.mk (blk_below (g := gb530) (o := .cells #[.int .i64 0, .int .i64 0, .int .i64 0] 23 (0, 0)) (by (with_reducible repeat (first | refine blk_drewN ?_ _ | refine blk_drew ?_ | refine blk_alloc ?_ _)); exact BK530.out) hb)
               have n5_ := Aside0.mk (below_step (by repeat (first | (with_reducible first | exact HB.out | apply below_alloc | apply pw_below_drewN | apply below_drew1 | refine below_set ?_ GE509.out | refine below_set ?_ GE514.out | refine below_set ?_ GE519.out | refine below_set ?_ GE530.out) | exact HB.out)) hb)
               clear BK509
               clear BK514
               clear BK519
               clear BK530
               clear HB
               have HO523 := n0_
               have BK509 := n1_
               have BK514 := n2_
               have BK519 := n3_
               have BK530 := n4_
               have HB := n5_
               clear n0_ n1_ n2_ n3_ n4_ n5_
               clear hb ho96
               obtain ⟨Ao97, co97, eo97⟩ := Kd.R_slice HO523.out
               (first | subst eo97 | (injection eo97 with f1_ f2_ f3_; have f4_ := f1_.symm; have f5_ := f3_.symm; clear f1_ f2_ f3_; subst f4_; subst f5_))
               refine hK.out _ _ ⟨(blk_cell BK509.out 0).trans rfl, (blk_cell BK509.out 1).trans rfl, (blk_cell BK509.out 2).trans rfl⟩ (fun hHeld => ?_)
               clear hK K
               refine norm_ (a' := ?_) ?_ ?_
               rotate_left
               ·show Act.put _ (some 39) _ = _
                simp only [Act.put, sA, sB, sC, i64_w, i32_w]
                rfl
               refine one_ (i := 4) (N := some 40) #[X,X,X,X,X,Z,Z,Z,Z,Z,X,Z,Z,Z,Z] rfl rfl (one_of HT_.out (by kernel_rfl)) (by decide) (fun K hK => ?_)
               refine goes_ Try.func11 (by kernel_rfl) rfl #[.agg #[.int .i64 t505, .int .i64 t506, .int .i64 t507], .slice Ao97 y521.length co97] (by rfl) rfl rfl (by (try simp only [List.map_toArray, List.map_cons, List.map_nil]); first | done | rfl | (simp only [List.length_drop, List.length_take]; rfl)) ?_
               with_reducible refine (panel_Swing.calls k t505 t506 t507 _ _ y521 t524 t525 t526 t527 t528 t529 _ ?side1 ?side2 A11.out).mono ?_
               (case side1 => repeat (first | exact (Kd.R_reads' HO523.out).2.2 | (with_reducible refine Kd.C_alloc ?_ _) | (with_reducible refine Kd.C_drewN ?_ _) | (with_reducible refine Kd.C_drew ?_)))
               (case side2 => exact (Kd.R_reads' HO523.out).2.1)
               rintro e w98 ⟨rfl, hb⟩
               refine ⟨_, rfl, ?_⟩
               have n0_ := Aside0.mk (Kd.R_below (by (with_reducible repeat (first | apply Kd.R_alloc | apply Kd.R_drewN | apply Kd.R_drew)); exact HO523.out) hb)
               have n1_ := Aside0.mk (blk_below (g := gb509) (o := .cells #[.int .i64 t505, .int .i64 t506, .int .i64 t507] 23 (0, 0)) (by (with_reducible repeat (first | refine blk_drewN ?_ _ | refine blk_drew ?_ | refine blk_alloc ?_ _)); exact BK509.out) hb)
               have n2_ := Aside0.mk (blk_below (g := gb514) (o := .cells #[.int .i64 t510, .int .i64 t511, .int .i64 t512] 23 (0, 0)) (by (with_reducible repeat (first | refine blk_drewN ?_ _ | refine blk_drew ?_ | refine blk_alloc ?_ _)); exact BK514.out) hb)
               have n3_ := Aside0.mk (blk_below (g := gb519) (o := .cells #[.int .i64 t515, .int .i64 t516, .int .i64 t517] 23 (0, 0)) (by (with_reducible repeat (first | refine blk_drewN ?_ _ | refine blk_drew ?_ | refine blk_alloc ?_ _)); exact BK519.out) hb)
               have n4_ := Aside0.mk (blk_below (g := gb530) (o := .cells #[.int .i64 0, .int .i64 0, .int .i64 0] 23 (0, 0)) (by (with_reducible repeat (first | refine blk_drewN ?_ _ | refine blk_drew ?_ | refine blk_alloc ?_ _)); exact BK530.out) hb)
               have n5_ := Aside0.mk (below_step (by repeat (first | (with_reducible first | exact HB.out | apply below_alloc | apply pw_below_drewN | apply below_drew1 | refine below_set ?_ GE509.out | refine below_set ?_ GE514.out | refine below_set ?_ GE519.out | refine below_set ?_ GE530.out) | exact HB.out)) hb)
               clear HO523
               clear BK509
               clear BK514
               clear BK519
               clear BK530
               clear HB
               have HO523 := n0_
               have BK509 := n1_
               have BK514 := n2_
               have BK519 := n3_
               have BK530 := n4_
               have HB := n5_
               clear n0_ n1_ n2_ n3_ n4_ n5_
               (try clear hb)
               (try clear hb2)
               (try clear hk)
               (try clear hi)
               refine hK.out _ _ ⟨(blk_cell BK509.out 0).trans rfl, (blk_cell BK509.out 1).trans rfl, (blk_cell BK509.out 2).trans rfl⟩ (fun hHeld => ?_)
               clear hK K
               refine norm_ (a' := ?_) ?_ ?_
               rotate_left
               ·show Act.put _ (some 40) _ = _
                simp only [Act.put, sA, sB, sC, i64_w, i32_w]
                rfl
               refine pure_ (i := 5) (N := some 35) (v := ?_) (a' := ?_) #[X,X,X,X,X,X,Z,Z,Z,Z,X,Z,Z,Z,Z] rfl rfl (any_of HT_.out (by kernel_rfl)) (fun _ _ _ h => h) (Or.inl ⟨by rfl, ?_⟩) ?_ ?_
               rotate_left
               ·intro w'
                go_simp
                with_reducible rfl
               rotate_left
               ·simp only [Act.put, sA, sB, sC, i64_w, i32_w]
                rfl
               refine pure_ (i := 6) (N := some 41) (v := ?_) (a' := ?_) #[X,X,X,X,X,X,X,Z,Z,Z,X,Z,Z,Z,Z] rfl rfl (any_of HT_.out (by kernel_rfl)) (fun _ _ _ h => h) (Or.inl ⟨by rfl, ?_⟩) ?_ ?_
               rotate_left
               ·intro w'
                go_simp
                with_reducible rfl
               rotate_left
               ·simp only [Act.put, sA, sB, sC, i64_w, i32_w]
                rfl
               refine pure_ (i := 7) (N := some 42) (v := ?_) (a' := ?_) #[X,X,X,X,X,X,X,X,Z,Z,X,Z,Z,Z,Z] rfl rfl (any_of HT_.out (by kernel_rfl)) (fun _ _ _ h => h) (Or.inl ⟨by rfl, ?_⟩) ?_ ?_
               rotate_left
               ·intro w'
                go_simp
                with_reducible rfl
               rotate_left
               ·simp only [Act.put, sA, sB, sC, i64_w, i32_w]
                rfl
               refine pure_ (i := 8) (N := some 43) (v := ?_) (a' := ?_) #[X,X,X,X,X,X,X,X,X,Z,X,Z,Z,Z,Z] rfl rfl (any_of HT_.out (by kernel_rfl)) (fun _ _ _ h => h) (Or.inl ⟨by rfl, ?_⟩) ?_ ?_
               rotate_left
               ·intro w'
                go_simp
                with_reducible rfl
               rotate_left
               ·simp only [Act.put, sA, sB, sC, i64_w, i32_w]
                rfl
               refine pure_ (i := 9) (N := some 44) (v := ?_) (a' := ?_) #[X,X,X,X,X,X,X,X,X,X,X,Z,Z,Z,Z] rfl rfl (any_of HT_.out (by kernel_rfl)) (fun _ _ _ h => h) (Or.inl ⟨by rfl, ?_⟩) ?_ ?_
               rotate_left
               ·intro w'
                go_simp
                with_reducible rfl
               rotate_left
               ·simp only [Act.put, sA, sB, sC, i64_w, i32_w]
                rfl
               exact norm_ (by simp only [putAll, Act.put, List.setIfInBounds_toArray, List.set_cons_zero, List.set_cons_succ]) (hCont (.slice Ao97 y521.length co97, gb530) _ ⟨hHeld, (by (with_reducible repeat (first | apply Kd.R_alloc | apply Kd.R_drewN | apply Kd.R_drew)); exact HO523.out), (by (with_reducible repeat (first | refine blk_drewN ?_ _ | refine blk_drew ?_ | refine blk_alloc ?_ _)); exact BK509.out), (by (with_reducible repeat (first | refine blk_drewN ?_ _ | refine blk_drew ?_ | refine blk_alloc ?_ _)); exact BK514.out), (by (with_reducible repeat (first | refine blk_drewN ?_ _ | refine blk_drew ?_ | refine blk_alloc ?_ _)); exact BK519.out), (by (with_reducible repeat (first | refine blk_drewN ?_ _ | refine blk_drew ?_ | refine blk_alloc ?_ _)); exact BK530.out), GW530.out, GE530.out, NB509_530.out, NB530_509.out, NB514_530.out, NB530_514.out, NB519_530.out, NB530_519.out, (by repeat (first | (with_reducible first | exact HB.out | apply below_alloc | apply pw_below_drewN | apply below_drew1 | refine below_set ?_ GE509.out | refine below_set ?_ GE514.out | refine below_set ?_ GE519.out | refine below_set ?_ GE530.out) | exact HB.out))⟩)
             rintro ⟨v522, gb530⟩ w99 ⟨hS_, h0_, h1_, h2_, h3_, h4_, h5_, h6_, h7_, h8_, h9_, h10_, h11_, h12_, h13_⟩
             have n0_ : Aside0 (Kd.R (Kd.int .i64) 3 w99 w.heap.size (fun _ => True) v522 y521) := ⟨h0_⟩
             have n1_ : Aside0 (w99.heap[gb509]? = some (.cells #[.int .i64 t505, .int .i64 t506, .int .i64 t507] 23 (0, 0))) := ⟨h1_⟩
             have n2_ : Aside0 (w99.heap[gb514]? = some (.cells #[.int .i64 t510, .int .i64 t511, .int .i64 t512] 23 (0, 0))) := ⟨h2_⟩
             have n3_ : Aside0 (w99.heap[gb519]? = some (.cells #[.int .i64 t515, .int .i64 t516, .int .i64 t517] 23 (0, 0))) := ⟨h3_⟩
             have n4_ : Aside0 (w99.heap[gb530]? = some (.cells #[.int .i64 0, .int .i64 0, .int .i64 0] 23 (0, 0))) := ⟨h4_⟩
             have n5_ : Aside0 (w.heap.size ≤ gb530) := ⟨h5_⟩
             have n6_ : Aside0 (w.heap.size ≤ gb530) := ⟨h6_⟩
             have n7_ : Aside0 (gb509 ≠ gb530) := ⟨h7_⟩
             have n8_ : Aside0 (gb530 ≠ gb509) := ⟨h8_⟩
             have n9_ : Aside0 (gb514 ≠ gb530) := ⟨h9_⟩
             have n10_ : Aside0 (gb530 ≠ gb514) := ⟨h10_⟩
             have n11_ : Aside0 (gb519 ≠ gb530) := ⟨h11_⟩
             have n12_ : Aside0 (gb530 ≠ gb519) := ⟨h12_⟩
             have n13_ : Aside0 (Below w.heap.size w w99) := ⟨h13_⟩
             clear BK509
             clear BK514
             clear BK519
             clear HB
             clear h0_ h1_ h2_ h3_ h4_ h5_ h6_ h7_ h8_ h9_ h10_ h11_ h12_ h13_
             have HO523 := n0_
             have BK509 := n1_
             have BK514 := n2_
             have BK519 := n3_
             have BK530 := n4_
             have GW530 := n5_
             have GE530 := n6_
             have NB509_530 := n7_
             have NB530_509 := n8_
             have NB514_530 := n9_
             have NB530_514 := n10_
             have NB519_530 := n11_
             have NB530_519 := n12_
             have HB := n13_
             clear n0_ n1_ n2_ n3_ n4_ n5_ n6_ n7_ n8_ n9_ n10_ n11_ n12_ n13_
             have hHeld : w99.cell? ⟨gb509, 0, none⟩ = some (.int .i64 t505) ∧ w99.cell? ⟨gb509, 1, none⟩ = some (.int .i64 t506) ∧ w99.cell? ⟨gb509, 2, none⟩ = some (.int .i64 t507) := hS_
             refine norm_ (a' := ?_) ?_ ?_
             rotate_left
             ·simp only [putAll, Act.put, List.setIfInBounds_toArray, List.set_cons_zero, List.set_cons_succ]
              rfl
             refine one_ (i := 11) (N := none) #[X,X,X,X,X,X,X,X,X,X,X,X,Z,Z,Z] rfl rfl (one_of HT_.out (by kernel_rfl)) (by decide) (fun K hK => ?_)
             have hs100 : w99.cell? ⟨gb530, 0, none⟩ = some (.int .i64 0) := (blk_cell BK530.out 0).trans rfl
             have hfs100 := blk_frozen BK530.out 0
             have hns100_0 := NB509_530.out
             have hns100_1 := NB514_530.out
             have hns100_2 := NB519_530.out
             have hms100_0 := NB530_509.out
             have hms100_1 := NB530_514.out
             have hms100_2 := NB530_519.out
             have hs101 : w99.cell? ⟨gb530, 1, none⟩ = some (.int .i64 0) := (blk_cell BK530.out 1).trans rfl
             have hfs101 := blk_frozen BK530.out 1
             have hns101_0 := NB509_530.out
             have hns101_1 := NB514_530.out
             have hns101_2 := NB519_530.out
             have hms101_0 := NB530_509.out
             have hms101_1 := NB530_514.out
             have hms101_2 := NB530_519.out
             have hs102 : w99.cell? ⟨gb530, 2, none⟩ = some (.int .i64 0) := (blk_cell BK530.out 2).trans rfl
             have hfs102 := blk_frozen BK530.out 2
             have hns102_0 := NB509_530.out
             have hns102_1 := NB514_530.out
             have hns102_2 := NB519_530.out
             have hms102_0 := NB530_509.out
             have hms102_1 := NB530_514.out
             have hms102_2 := NB530_519.out
             refine skip_ (w1 := ?_) (by rfl) rfl ?_ ?_
             rotate_left
             ·go_simp
              rfl
             refine hK.out _ _ ⟨((cell_far (p := ⟨gb530, _, none⟩) NB509_530.out _).trans (((cell_far (p := ⟨gb530, _, none⟩) NB509_530.out _).trans (((cell_far (p := ⟨gb530, _, none⟩) NB509_530.out _).trans (hHeld.1)))))), ((cell_far (p := ⟨gb530, _, none⟩) NB509_530.out _).trans (((cell_far (p := ⟨gb530, _, none⟩) NB509_530.out _).trans (((cell_far (p := ⟨gb530, _, none⟩) NB509_530.out _).trans (hHeld.2.1)))))), ((cell_far (p := ⟨gb530, _, none⟩) NB509_530.out _).trans (((cell_far (p := ⟨gb530, _, none⟩) NB509_530.out _).trans (((cell_far (p := ⟨gb530, _, none⟩) NB509_530.out _).trans (hHeld.2.2))))))⟩ (fun hHeld => ?_)
             clear hK K
             refine pure_ (i := 12) (N := some 15) (v := ?_) (a' := ?_) #[X,X,X,X,X,X,X,X,X,X,X,X,X,Z,Z] rfl rfl (any_of HT_.out (by kernel_rfl)) (fun _ _ _ h => h) (Or.inl ⟨by rfl, ?_⟩) ?_ ?_
             rotate_left
             ·intro w'
              go_simp
              with_reducible rfl
             rotate_left
             ·simp only [Act.put, sA, sB, sC, i64_w, i32_w]
              rfl
             refine pure_ (i := 13) (N := some 16) (v := ?_) (a' := ?_) #[X,X,X,X,X,X,X,X,X,X,X,X,X,X,Z] rfl rfl (any_of HT_.out (by kernel_rfl)) (fun _ _ _ h => h) (Or.inl ⟨by rfl, ?_⟩) ?_ ?_
             rotate_left
             ·intro w'
              go_simp
              with_reducible rfl
             rotate_left
             ·simp only [Act.put, sA, sB, sC, i64_w, i32_w]
              rfl
             refine pure_ (i := 14) (N := some 17) (v := ?_) (a' := ?_) #[X,X,X,X,X,X,X,X,X,X,X,X,X,X,X] rfl rfl (any_of HT_.out (by kernel_rfl)) (fun _ _ _ h => h) (Or.inl ⟨by rfl, ?_⟩) ?_ ?_
             rotate_left
             ·intro w'
              go_simp
              with_reducible rfl
             rotate_left
             ·simp only [Act.put, sA, sB, sC, i64_w, i32_w]
              rfl
             refine done_ (done_of HT_.out (by kernel_rfl)) ?_
             have hnb103 := NB519_530.out
             have hnc103 := NB530_519.out
             have hcz104_0 : w99.cell? ⟨gb519, 0, none⟩ = some (.int .i64 t515) := (blk_cell BK519.out 0).trans rfl
             have hcz104_1 : w99.cell? ⟨gb519, 1, none⟩ = some (.int .i64 t516) := (blk_cell BK519.out 1).trans rfl
             have hcz104_2 : w99.cell? ⟨gb519, 2, none⟩ = some (.int .i64 t517) := (blk_cell BK519.out 2).trans rfl
             have hfz104_0 := blk_frozen BK519.out 0
             have hfz104_1 := blk_frozen BK519.out 1
             have hfz104_2 := blk_frozen BK519.out 2
             have hnb105 := NB509_530.out
             have hnc105 := NB530_509.out
             have hcz106_0 : w99.cell? ⟨gb509, 0, none⟩ = some (.int .i64 t505) := (blk_cell BK509.out 0).trans rfl
             have hcz106_1 : w99.cell? ⟨gb509, 1, none⟩ = some (.int .i64 t506) := (blk_cell BK509.out 1).trans rfl
             have hcz106_2 : w99.cell? ⟨gb509, 2, none⟩ = some (.int .i64 t507) := (blk_cell BK509.out 2).trans rfl
             have hfz106_0 := blk_frozen BK509.out 0
             have hfz106_1 := blk_frozen BK509.out 1
             have hfz106_2 := blk_frozen BK509.out 2
             try go_wp2
             go_ret
             exact ⟨by first | rfl | (simp [errW_none, errW_some] <;> rfl) | (simp [*, errW_none, errW_some] <;> rfl) | (simp (discharger := omega) only [Int.tdiv_eq_ediv_of_nonneg, Int.tmod_eq_emod_of_nonneg] <;> rfl), by repeat (first | (with_reducible first | exact HB.out | apply below_alloc | apply pw_below_drewN | apply below_drew1 | refine below_set ?_ GE509.out | refine below_set ?_ GE514.out | refine below_set ?_ GE519.out | refine below_set ?_ GE530.out) | exact HB.out)⟩
            ·rw [if_neg c78] at H
             exact absurd H (by simp)
           ·rw [if_neg c77] at H
            exact absurd H (by simp)
        ·replace c17 := Bool.eq_false_iff.mpr c17
         subst c17
         have H1 : (none) = some r := by rw [if_neg (show ¬ (false = true) by decide)] at H; exact H
         clear H
         have H := H1
         clear H1
         exact absurd H (by simp)
      ·rw [if_neg c15] at H
       exact absurd H (by simp)
     ·rw [if_neg c14] at H
      exact absurd H (by simp)
    ·rw [if_neg c13] at H
     exact absurd H (by simp)
   ·replace c12 := Bool.eq_false_iff.mpr c12
    subst c12
    have H1 : (none) = some r := by rw [if_neg (show ¬ (false = true) by decide)] at H; exact H
    clear H
    have H := H1
    clear H1
    exact absurd H (by simp)
  ·rw [if_neg c10] at H
   exact absurd H (by simp)
 ·rw [if_neg c9] at H
  exact absurd H (by simp)

/-- THE ONE PURE STATEMENT of tipstafflaw16_PanelBack: yours. -/
def tipstafflaw16_PanelBack.Pure : Prop := ∀ (a0 : Int) (l1 : List Int) (a2 : Int), (Lit.int .i64 a0).wf = true → l1.length ≤ maxLen → l1.length * 8 ≤ 140737488351232 → (∀ x ∈ l1, (Lit.int .i64 x).wf = true) → (Lit.int .i64 a2).wf = true → ∃ k, tipstafflaw16_PanelBack.f k a0 l1 a2 = some true
theorem tipstafflaw16_PanelBack.walk (P : tipstafflaw16_PanelBack.Pure) (a0 : Int) (a1 : Option Addr) (len1 cap1 : Nat) (z1 : List Int) (a2 : Int) (w : World) (w0 : (Lit.int .i64 a0).wf = true) (w1 : (a1 = none ∧ len1 = 0 ∧ cap1 = 0 ∧ z1 = []) ∨ ∃ x, a1 = some x ∧ len1 ≤ cap1 ∧ cap1 ≤ maxLen ∧ z1.length = cap1 ∧ (∀ i, i < z1.length → w.cell? (x.add i) = some (.int .i64 (z1.getD i 0))) ∧ ∀ n ∈ z1, (Lit.int .i64 n).wf = true) (y1 : len1 * 8 ≤ 140737488351232) (w2 : (Lit.int .i64 a2).wf = true) :
  Calls Try.prog 7 #[.int .i64 a0, .slice a1 len1 cap1, .int .i64 a2] w fun e w' => e = .returned (.bool true) ∧ Below w.heap.size w w' := by
 obtain ⟨l1, rfl, hr1, hm1, hw1, hc1⟩ := ReadsInt.ofRowC w1
 obtain ⟨k, h⟩ := P a0 l1 a2 w0 hm1 y1 hw1 w2
 refine (tipstafflaw16_PanelBack.calls k a0 _ _ l1 a2 true w (Kd.C_of_reads (d := (0 : Int)) (h1 := fun _ => rfl) hr1) hc1 h).mono ?_
 rintro e w' ⟨rfl, hd⟩
 exact ⟨rfl, hd⟩

end Go.Proofs.Ytbkidegpgpccfaa.S
