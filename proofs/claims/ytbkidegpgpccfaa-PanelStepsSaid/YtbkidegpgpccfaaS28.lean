-- PRINTED by print.py (a twelfth state) out of the translation. Not trusted: Lean checks it.
import Derived.Test.YtbkidegpgpccfaaS0
import Derived.Test.YtbkidegpgpccfaaS1
import Derived.Test.YtbkidegpgpccfaaS3
import Derived.Test.YtbkidegpgpccfaaS7
import Derived.Test.YtbkidegpgpccfaaS8
import Derived.Test.YtbkidegpgpccfaaS10
import Derived.Test.YtbkidegpgpccfaaS12
import Derived.Test.YtbkidegpgpccfaaS17
import Derived.Test.YtbkidegpgpccfaaS25
import Derived.Test.YtbkidegpgpccfaaS26
import Derived.Test.YtbkidegpgpccfaaS27
namespace Go.Proofs.Ytbkidegpgpccfaa.S
open Go.RowKit Go.Proofs.YtbkidegpgpccfaaW.PrintWords Go.Proofs.YtbkidegpgpccfaaW.PrintLast Go.Proofs.YtbkidegpgpccfaaW.PrintMore
attribute [local go_sem] Go.Proofs.YtbkidegpgpccfaaW.PrintXtra.isSome_setCell max2_int min2_int max_two min_two max_three min_three max_four min_four   -- for this text's walks alone
set_option linter.unusedVariables false
set_option linter.unusedSimpArgs false

attribute [local go_sem high] eqA23
/-! ### tipstafflaw16_PanelSteps: function 8 -/
mutual
def tipstafflaw16_PanelSteps.j0 : Nat → Int → Int → Bool → Int → Int → Int → Option (Bool)
  | 0, _, _, _, _, _, _ => none
  | k + 1, x1, x2, x39, x558000, x558001, x558002 => if x39 = true then (none) else ((panel_Order.f k x558000 x558001 x558002 x1).bind fun bt570 => ((tipstaffref16_Order.f k x558000 x558001 x558002 x1).bind fun bt574 => (if (!(bt570.1 == bt574.1) || (!(bt570.2.1 == bt574.2.1) || (!(bt570.2.2.1 == bt574.2.2.1)))) = true then (tipstafflaw16_PanelSteps.j1 k x2 true x558000 x558001 x558002) else (tipstafflaw16_PanelSteps.j1 k x2 (bt570.2.2.2 != bt574.2.2.2) x558000 x558001 x558002))))
def tipstafflaw16_PanelSteps.j1 : Nat → Int → Bool → Int → Int → Int → Option (Bool)
  | 0, _, _, _, _, _ => none
  | k + 1, x2, x59, x558000, x558001, x558002 => if x59 = true then (none) else ((panel_Step.f k x558000 x558001 x558002).bind fun bt578 => ((tipstaffref16_Step.f k x558000 x558001 x558002).bind fun bt583 => (if (!(bt578.1 == bt583.1) || (!(bt578.2.1 == bt583.2.1) || (!(bt578.2.2.1 == bt583.2.2.1)))) = true then (tipstafflaw16_PanelSteps.j2 k x2 true x558000 x558001 x558002) else (if bt578.2.2.2.1 = bt583.2.2.2.1 then (tipstafflaw16_PanelSteps.j2 k x2 (bt578.2.2.2.2 != bt583.2.2.2.2) x558000 x558001 x558002) else (tipstafflaw16_PanelSteps.j2 k x2 true x558000 x558001 x558002)))))
def tipstafflaw16_PanelSteps.j2 : Nat → Int → Bool → Int → Int → Int → Option (Bool)
  | 0, _, _, _, _, _ => none
  | k + 1, x2, x84, x558000, x558001, x558002 => if x84 = true then (none) else ((panel_Run.f k x558000 x558001 x558002 x2).bind fun bt588 => ((tipstaffref16_Run.f k x558000 x558001 x558002 x2).bind fun bt592 => ((panel_Left.f k x558000 x558001 x558002).bind fun bt596 => ((tipstaffref16_Left.f k x558000 x558001 x558002).bind fun bt598 => (if (bt588.1 == bt592.1 && (bt588.2.1 == bt592.2.1 && (bt588.2.2.1 == bt592.2.2.1))) = true then (if bt588.2.2.2 = bt592.2.2.2 then (if bt596.1 = bt598.1 then (if bt596.2 = bt598.2 then ((tipstafflaw16_awake.f k).bind fun t600 => (some t600)) else (none)) else (none)) else (none)) else (none))))))
end
def tipstafflaw16_PanelSteps.f (k : Nat) (a0_0 : Int) (a0_1 : Int) (a0_2 : Int) (a1 : Int) (a2 : Int) : Option (Bool) := (panel_New.f a1).bind fun bt558 => ((tipstaffref16_New.f a1).bind fun bt563 => (if (!(bt558.1 == bt563.1) || (!(bt558.2.1 == bt563.2.1) || (!(bt558.2.2.1 == bt563.2.2.1)))) = true then (tipstafflaw16_PanelSteps.j0 k a1 a2 true a0_0 a0_1 a0_2) else (if bt558.2.2.2 = bt563.2.2.2 then ((panel_Check.f k a0_0 a0_1 a0_2).bind fun t568 => ((tipstaffref16_Check.f k a0_0 a0_1 a0_2).bind fun t569 => (tipstafflaw16_PanelSteps.j0 k a1 a2 (t568 != t569) a0_0 a0_1 a0_2))) else (tipstafflaw16_PanelSteps.j0 k a1 a2 true a0_0 a0_1 a0_2))))
theorem tipstafflaw16_PanelSteps.mono_l : ∀ k, (∀ y0 y1 y2 y3 y4 y5, LeO (tipstafflaw16_PanelSteps.j0 k y0 y1 y2 y3 y4 y5) (tipstafflaw16_PanelSteps.j0 (k + 1) y0 y1 y2 y3 y4 y5)) ∧ (∀ y0 y1 y2 y3 y4, LeO (tipstafflaw16_PanelSteps.j1 k y0 y1 y2 y3 y4) (tipstafflaw16_PanelSteps.j1 (k + 1) y0 y1 y2 y3 y4)) ∧ (∀ y0 y1 y2 y3 y4, LeO (tipstafflaw16_PanelSteps.j2 k y0 y1 y2 y3 y4) (tipstafflaw16_PanelSteps.j2 (k + 1) y0 y1 y2 y3 y4))
  | 0 => ⟨fun _ _ _ _ _ _ r h => by simp [tipstafflaw16_PanelSteps.j0] at h, fun _ _ _ _ _ r h => by simp [tipstafflaw16_PanelSteps.j1] at h, fun _ _ _ _ _ r h => by simp [tipstafflaw16_PanelSteps.j2] at h⟩
  | k + 1 => by
    obtain ⟨ih0, ih1, ih2⟩ := tipstafflaw16_PanelSteps.mono_l k
    refine ⟨?_, ?_, ?_⟩
    · intro y0 y1 y2 y3 y4 y5
      unfold tipstafflaw16_PanelSteps.j0
      repeat' first
      | (with_reducible exact ih0 _ _ _ _ _ _)
      | (with_reducible exact ih1 _ _ _ _ _)
      | (with_reducible exact ih2 _ _ _ _ _)
      | (with_reducible exact panel_Check.mono _ _ _ _)
      | (with_reducible exact panel_Left.mono _ _ _ _)
      | (with_reducible exact panel_Order.mono _ _ _ _ _)
      | (with_reducible exact panel_Run.mono _ _ _ _ _)
      | (with_reducible exact panel_Step.mono _ _ _ _)
      | (with_reducible exact tipstafflaw16_awake.mono _)
      | (with_reducible exact tipstaffref16_Check.mono _ _ _ _)
      | (with_reducible exact tipstaffref16_Left.mono _ _ _ _)
      | (with_reducible exact tipstaffref16_Order.mono _ _ _ _ _)
      | (with_reducible exact tipstaffref16_Run.mono _ _ _ _ _)
      | (with_reducible exact tipstaffref16_Step.mono _ _ _ _)
      | (with_reducible exact LeO.refl _)
      | (with_reducible exact LeO.none _)
      | (with_reducible refine LeO.ite ?_ ?_)
      | (with_reducible refine LeO.bind ?_ (fun _ => ?_))
      | exact ih0 _ _ _ _ _ _
      | exact ih1 _ _ _ _ _
      | exact ih2 _ _ _ _ _
      | exact panel_Check.mono _ _ _ _
      | exact panel_Left.mono _ _ _ _
      | exact panel_Order.mono _ _ _ _ _
      | exact panel_Run.mono _ _ _ _ _
      | exact panel_Step.mono _ _ _ _
      | exact tipstafflaw16_awake.mono _
      | exact tipstaffref16_Check.mono _ _ _ _
      | exact tipstaffref16_Left.mono _ _ _ _
      | exact tipstaffref16_Order.mono _ _ _ _ _
      | exact tipstaffref16_Run.mono _ _ _ _ _
      | exact tipstaffref16_Step.mono _ _ _ _
      | exact LeO.none _
      | refine LeO.ite ?_ ?_
      | refine LeO.bind ?_ (fun _ => ?_)
    · intro y0 y1 y2 y3 y4
      unfold tipstafflaw16_PanelSteps.j1
      repeat' first
      | (with_reducible exact ih0 _ _ _ _ _ _)
      | (with_reducible exact ih1 _ _ _ _ _)
      | (with_reducible exact ih2 _ _ _ _ _)
      | (with_reducible exact panel_Check.mono _ _ _ _)
      | (with_reducible exact panel_Left.mono _ _ _ _)
      | (with_reducible exact panel_Order.mono _ _ _ _ _)
      | (with_reducible exact panel_Run.mono _ _ _ _ _)
      | (with_reducible exact panel_Step.mono _ _ _ _)
      | (with_reducible exact tipstafflaw16_awake.mono _)
      | (with_reducible exact tipstaffref16_Check.mono _ _ _ _)
      | (with_reducible exact tipstaffref16_Left.mono _ _ _ _)
      | (with_reducible exact tipstaffref16_Order.mono _ _ _ _ _)
      | (with_reducible exact tipstaffref16_Run.mono _ _ _ _ _)
      | (with_reducible exact tipstaffref16_Step.mono _ _ _ _)
      | (with_reducible exact LeO.refl _)
      | (with_reducible exact LeO.none _)
      | (with_reducible refine LeO.ite ?_ ?_)
      | (with_reducible refine LeO.bind ?_ (fun _ => ?_))
      | exact ih0 _ _ _ _ _ _
      | exact ih1 _ _ _ _ _
      | exact ih2 _ _ _ _ _
      | exact panel_Check.mono _ _ _ _
      | exact panel_Left.mono _ _ _ _
      | exact panel_Order.mono _ _ _ _ _
      | exact panel_Run.mono _ _ _ _ _
      | exact panel_Step.mono _ _ _ _
      | exact tipstafflaw16_awake.mono _
      | exact tipstaffref16_Check.mono _ _ _ _
      | exact tipstaffref16_Left.mono _ _ _ _
      | exact tipstaffref16_Order.mono _ _ _ _ _
      | exact tipstaffref16_Run.mono _ _ _ _ _
      | exact tipstaffref16_Step.mono _ _ _ _
      | exact LeO.none _
      | refine LeO.ite ?_ ?_
      | refine LeO.bind ?_ (fun _ => ?_)
    · intro y0 y1 y2 y3 y4
      unfold tipstafflaw16_PanelSteps.j2
      repeat' first
      | (with_reducible exact ih0 _ _ _ _ _ _)
      | (with_reducible exact ih1 _ _ _ _ _)
      | (with_reducible exact ih2 _ _ _ _ _)
      | (with_reducible exact panel_Check.mono _ _ _ _)
      | (with_reducible exact panel_Left.mono _ _ _ _)
      | (with_reducible exact panel_Order.mono _ _ _ _ _)
      | (with_reducible exact panel_Run.mono _ _ _ _ _)
      | (with_reducible exact panel_Step.mono _ _ _ _)
      | (with_reducible exact tipstafflaw16_awake.mono _)
      | (with_reducible exact tipstaffref16_Check.mono _ _ _ _)
      | (with_reducible exact tipstaffref16_Left.mono _ _ _ _)
      | (with_reducible exact tipstaffref16_Order.mono _ _ _ _ _)
      | (with_reducible exact tipstaffref16_Run.mono _ _ _ _ _)
      | (with_reducible exact tipstaffref16_Step.mono _ _ _ _)
      | (with_reducible exact LeO.refl _)
      | (with_reducible exact LeO.none _)
      | (with_reducible refine LeO.ite ?_ ?_)
      | (with_reducible refine LeO.bind ?_ (fun _ => ?_))
      | exact ih0 _ _ _ _ _ _
      | exact ih1 _ _ _ _ _
      | exact ih2 _ _ _ _ _
      | exact panel_Check.mono _ _ _ _
      | exact panel_Left.mono _ _ _ _
      | exact panel_Order.mono _ _ _ _ _
      | exact panel_Run.mono _ _ _ _ _
      | exact panel_Step.mono _ _ _ _
      | exact tipstafflaw16_awake.mono _
      | exact tipstaffref16_Check.mono _ _ _ _
      | exact tipstaffref16_Left.mono _ _ _ _
      | exact tipstaffref16_Order.mono _ _ _ _ _
      | exact tipstaffref16_Run.mono _ _ _ _ _
      | exact tipstaffref16_Step.mono _ _ _ _
      | exact LeO.none _
      | refine LeO.ite ?_ ?_
      | refine LeO.bind ?_ (fun _ => ?_)
theorem tipstafflaw16_PanelSteps.mono : ∀ a0 a1 a2 a3 a4 k, LeO (tipstafflaw16_PanelSteps.f k a0 a1 a2 a3 a4) (tipstafflaw16_PanelSteps.f (k + 1) a0 a1 a2 a3 a4) := by
  intro a0 a1 a2 a3 a4 k
  obtain ⟨ih0, ih1, ih2⟩ := tipstafflaw16_PanelSteps.mono_l k
  unfold tipstafflaw16_PanelSteps.f
  repeat' first
      | (with_reducible exact ih0 _ _ _ _ _ _)
      | (with_reducible exact ih1 _ _ _ _ _)
      | (with_reducible exact ih2 _ _ _ _ _)
      | (with_reducible exact panel_Check.mono _ _ _ _)
      | (with_reducible exact panel_Left.mono _ _ _ _)
      | (with_reducible exact panel_Order.mono _ _ _ _ _)
      | (with_reducible exact panel_Run.mono _ _ _ _ _)
      | (with_reducible exact panel_Step.mono _ _ _ _)
      | (with_reducible exact tipstafflaw16_awake.mono _)
      | (with_reducible exact tipstaffref16_Check.mono _ _ _ _)
      | (with_reducible exact tipstaffref16_Left.mono _ _ _ _)
      | (with_reducible exact tipstaffref16_Order.mono _ _ _ _ _)
      | (with_reducible exact tipstaffref16_Run.mono _ _ _ _ _)
      | (with_reducible exact tipstaffref16_Step.mono _ _ _ _)
      | (with_reducible exact LeO.refl _)
      | (with_reducible exact LeO.none _)
      | (with_reducible refine LeO.ite ?_ ?_)
      | (with_reducible refine LeO.bind ?_ (fun _ => ?_))
      | exact ih0 _ _ _ _ _ _
      | exact ih1 _ _ _ _ _
      | exact ih2 _ _ _ _ _
      | exact panel_Check.mono _ _ _ _
      | exact panel_Left.mono _ _ _ _
      | exact panel_Order.mono _ _ _ _ _
      | exact panel_Run.mono _ _ _ _ _
      | exact panel_Step.mono _ _ _ _
      | exact tipstafflaw16_awake.mono _
      | exact tipstaffref16_Check.mono _ _ _ _
      | exact tipstaffref16_Left.mono _ _ _ _
      | exact tipstaffref16_Order.mono _ _ _ _ _
      | exact tipstaffref16_Run.mono _ _ _ _ _
      | exact tipstaffref16_Step.mono _ _ _ _
      | exact LeO.none _
      | refine LeO.ite ?_ ?_
      | refine LeO.bind ?_ (fun _ => ?_)
def tipstafflaw16_PanelSteps.T3 : Bool × List (List Nat × List Nat) := (true, [([], []), ([], []), ([0, 1], [0, 1]), ([2], [2]), ([3], [3]), ([3], [3]), ([4, 5, 3], [3, 4, 5]), ([3, 6], [3, 6]), ([7, 3], [7]), ([8], [8]), ([9, 8, 8], [8, 9]), ([8], [8]), ([11, 10, 8], [8, 11]), ([10, 12, 8], [8, 10, 12]), ([8, 13], [8, 13])])
def tipstafflaw16_PanelSteps.B3 : List Nat := [0, 0, 3, 7, 15, 15, 63, 127, 255, 511, 1023, 511, 4095, 8191, 16383]
theorem tipstafflaw16_PanelSteps.tab3 : rtab .any (opsOf Try.f8 3) = tipstafflaw16_PanelSteps.T3 := by kernel_rfl
theorem tipstafflaw16_PanelSteps.bits3 : waitsOk tipstafflaw16_PanelSteps.T3.2 tipstafflaw16_PanelSteps.B3 = true := by kernel_rfl
set_option maxHeartbeats 8000000 in
set_option maxRecDepth 100000 in
theorem tipstafflaw16_PanelSteps.calls (k : Nat) (a0_0 : Int) (a0_1 : Int) (a0_2 : Int) (a1 : Int) (a2 : Int) (r : Bool) (w : World) (h : tipstafflaw16_PanelSteps.f k a0_0 a0_1 a0_2 a1 a2 = some r) :
    Calls Try.prog 8 #[.agg #[.int .i64 a0_0, .int .i64 a0_1, .int .i64 a0_2], .int .i64 a1, .int .i64 a2] w fun e w' => e = .returned (.bool r) ∧ Below w.heap.size w w' := by
  have hu23 := Try.underlying23
  have HB := Aside0.mk (Below.refl w.heap.size w)
  have H : ((panel_New.f a1).bind fun bt558 => ((tipstaffref16_New.f a1).bind fun bt563 => (if (!(bt558.1 == bt563.1) || (!(bt558.2.1 == bt563.2.1) || (!(bt558.2.2.1 == bt563.2.2.1)))) = true then (tipstafflaw16_PanelSteps.j0 k a1 a2 true a0_0 a0_1 a0_2) else (if bt558.2.2.2 = bt563.2.2.2 then ((panel_Check.f k a0_0 a0_1 a0_2).bind fun t568 => ((tipstaffref16_Check.f k a0_0 a0_1 a0_2).bind fun t569 => (tipstafflaw16_PanelSteps.j0 k a1 a2 (t568 != t569) a0_0 a0_1 a0_2))) else (tipstafflaw16_PanelSteps.j0 k a1 a2 true a0_0 a0_1 a0_2))))) = some r := h
  clear h
  replace H := Option.bind_eq_some_iff.mp H
  obtain ⟨⟨t558, t559, t560, t561⟩, A40, H⟩ := H
  replace H : ((tipstaffref16_New.f a1).bind fun bt563 => (if (!(t558 == bt563.1) || (!(t559 == bt563.2.1) || (!(t560 == bt563.2.2.1)))) = true then (tipstafflaw16_PanelSteps.j0 k a1 a2 true a0_0 a0_1 a0_2) else (if t561 = bt563.2.2.2 then ((panel_Check.f k a0_0 a0_1 a0_2).bind fun t568 => ((tipstaffref16_Check.f k a0_0 a0_1 a0_2).bind fun t569 => (tipstafflaw16_PanelSteps.j0 k a1 a2 (t568 != t569) a0_0 a0_1 a0_2))) else (tipstafflaw16_PanelSteps.j0 k a1 a2 true a0_0 a0_1 a0_2)))) = some r := H
  have A4 := Aside0.mk A40
  clear A40
  replace H := Option.bind_eq_some_iff.mp H
  obtain ⟨⟨t563, t564, t565, t566⟩, A50, H⟩ := H
  replace H : (if (!(t558 == t563) || (!(t559 == t564) || (!(t560 == t565)))) = true then (tipstafflaw16_PanelSteps.j0 k a1 a2 true a0_0 a0_1 a0_2) else (if t561 = t566 then ((panel_Check.f k a0_0 a0_1 a0_2).bind fun t568 => ((tipstaffref16_Check.f k a0_0 a0_1 a0_2).bind fun t569 => (tipstafflaw16_PanelSteps.j0 k a1 a2 (t568 != t569) a0_0 a0_1 a0_2))) else (tipstafflaw16_PanelSteps.j0 k a1 a2 true a0_0 a0_1 a0_2))) = some r := H
  have A5 := Aside0.mk A50
  clear A50
  have HC6 := Aside0.mk H
  clear H
  go_enter Try.func8, Try.ntmps8
  go_upto_region 3 with (first | ((with_reducible refine gate_dst (N := 3) rfl ?_); refine box_event ?hg (N := 3) ?hd (cs := #[.int .i64 a0_0, .int .i64 a0_1, .int .i64 a0_2]) (t := 23) ?hr ?_; (case hd => rfl); (case hg => rfl); (case hr => first | (go_simp; done) | (go_simp; rfl)); intro gb557 hg w7 hbox hb; have n0_ := Aside0.mk (below_step (by repeat (first | (with_reducible first | exact HB.out | apply below_alloc | apply pw_below_drewN | apply below_drew1) | exact HB.out)) hb); have n1_ := Aside0.mk (hbox); have n2_ := Aside0.mk ((by rw [hg]; exact (below_size (by repeat (first | (with_reducible first | exact HB.out | apply below_alloc | apply pw_below_drewN | apply below_drew1) | exact HB.out))) : w.heap.size ≤ gb557)); have n3_ := Aside0.mk ((by rw [hg]; exact (below_size (by repeat (first | (with_reducible first | exact HB.out | apply below_alloc | apply pw_below_drewN | apply below_drew1) | exact HB.out))) : w.heap.size ≤ gb557)); clear HB; have HB := n0_; have BK557 := n1_; have GW557 := n2_; have GE557 := n3_; clear n0_ n1_ n2_ n3_; clear hb hbox hg) | ((with_reducible refine gate_callee (f := 18) rfl ?_); refine goesL_ (some 17) rfl rfl Try.func18 (by kernel_rfl) rfl #[.int .i64 a1] rfl (by (try simp only [List.map_toArray, List.map_cons, List.map_nil]); first | done | rfl | (simp only [List.length_drop, List.length_take]; rfl)) ?_; (with_reducible refine (panel_New.calls a1 t558 t559 t560 t561 _ A4.out).mono ?_); rintro e w8 ⟨rfl, hb⟩; refine ⟨_, rfl, ?_⟩; have n0_ := Aside0.mk (blk_below (g := gb557) (o := .cells #[.int .i64 a0_0, .int .i64 a0_1, .int .i64 a0_2] 23 (0, 0)) (by (with_reducible repeat (first | refine blk_drewN ?_ _ | refine blk_drew ?_ | refine blk_alloc ?_ _)); exact BK557.out) hb); have n1_ := Aside0.mk (below_step (by repeat (first | (with_reducible first | exact HB.out | apply below_alloc | apply pw_below_drewN | apply below_drew1 | refine below_set ?_ GE557.out) | exact HB.out)) hb); clear BK557; clear HB; have BK557 := n0_; have HB := n1_; clear n0_ n1_; (try clear hb); (try clear hb2); (try clear hk); (try clear hi)) | ((with_reducible refine gate_dst (N := 7) rfl ?_); refine box_event ?hg (N := 7) ?hd (cs := #[.int .i64 0, .int .i64 0, .int .i64 0]) (t := 23) ?hr ?_; (case hd => rfl); (case hg => rfl); (case hr => first | (go_simp; done) | (go_simp; rfl)); intro gb562 hg w9 hbox hb; have n0_ := Aside0.mk (blk_below (g := gb557) (o := .cells #[.int .i64 a0_0, .int .i64 a0_1, .int .i64 a0_2] 23 (0, 0)) (by (with_reducible repeat (first | refine blk_drewN ?_ _ | refine blk_drew ?_ | refine blk_alloc ?_ _)); exact BK557.out) hb); have n1_ := Aside0.mk (below_step (by repeat (first | (with_reducible first | exact HB.out | apply below_alloc | apply pw_below_drewN | apply below_drew1 | refine below_set ?_ GE557.out) | exact HB.out)) hb); have n2_ := Aside0.mk (hbox); have n3_ := Aside0.mk ((by rw [hg]; exact (below_size (by repeat (first | (with_reducible first | exact HB.out | apply below_alloc | apply pw_below_drewN | apply below_drew1 | refine below_set ?_ GE557.out) | exact HB.out))) : w.heap.size ≤ gb562)); have n4_ := Aside0.mk ((by rw [hg]; exact (below_size (by repeat (first | (with_reducible first | exact HB.out | apply below_alloc | apply pw_below_drewN | apply below_drew1 | refine below_set ?_ GE557.out) | exact HB.out))) : w.heap.size ≤ gb562)); have n5_ := Aside0.mk ((by rw [hg]; exact Nat.ne_of_lt (blk_lt (g := gb557) (o := .cells #[.int .i64 a0_0, .int .i64 a0_1, .int .i64 a0_2] 23 (0, 0)) (by (with_reducible repeat (first | refine blk_drewN ?_ _ | refine blk_drew ?_ | refine blk_alloc ?_ _)); exact BK557.out)) : gb557 ≠ gb562)); have n6_ := Aside0.mk ((by rw [hg]; exact Nat.ne_of_gt (blk_lt (g := gb557) (o := .cells #[.int .i64 a0_0, .int .i64 a0_1, .int .i64 a0_2] 23 (0, 0)) (by (with_reducible repeat (first | refine blk_drewN ?_ _ | refine blk_drew ?_ | refine blk_alloc ?_ _)); exact BK557.out)) : gb562 ≠ gb557)); clear BK557; clear HB; have BK557 := n0_; have HB := n1_; have BK562 := n2_; have GW562 := n3_; have GE562 := n4_; have NB557_562 := n5_; have NB562_557 := n6_; clear n0_ n1_ n2_ n3_ n4_ n5_ n6_; clear hb hbox hg; have hnb10 := NB562_557.out; have hnc10 := NB557_562.out; have hcz11_0 : w9.cell? ⟨gb562, 0, none⟩ = some (.int .i64 0) := (blk_cell BK562.out 0).trans rfl; have hcz11_1 : w9.cell? ⟨gb562, 1, none⟩ = some (.int .i64 0) := (blk_cell BK562.out 1).trans rfl; have hcz11_2 : w9.cell? ⟨gb562, 2, none⟩ = some (.int .i64 0) := (blk_cell BK562.out 2).trans rfl; have hfz11_0 := blk_frozen BK562.out 0; have hfz11_1 := blk_frozen BK562.out 1; have hfz11_2 := blk_frozen BK562.out 2) | ((with_reducible refine gate_callee (f := 31) rfl ?_); refine goesL_ (some 22) rfl rfl Try.func31 (by kernel_rfl) rfl #[.int .i64 a1] rfl (by (try simp only [List.map_toArray, List.map_cons, List.map_nil]); first | done | rfl | (simp only [List.length_drop, List.length_take]; rfl)) ?_; (with_reducible refine (tipstaffref16_New.calls a1 t563 t564 t565 t566 _ A5.out).mono ?_); rintro e w12 ⟨rfl, hb⟩; refine ⟨_, rfl, ?_⟩; have n0_ := Aside0.mk (blk_below (g := gb557) (o := .cells #[.int .i64 a0_0, .int .i64 a0_1, .int .i64 a0_2] 23 (0, 0)) (by (with_reducible repeat (first | refine blk_drewN ?_ _ | refine blk_drew ?_ | refine blk_alloc ?_ _)); refine blk_far ?_ NB557_562.out _; (with_reducible repeat (first | refine blk_drewN ?_ _ | refine blk_drew ?_ | refine blk_alloc ?_ _)); refine blk_far ?_ NB557_562.out _; (with_reducible repeat (first | refine blk_drewN ?_ _ | refine blk_drew ?_ | refine blk_alloc ?_ _)); refine blk_far ?_ NB557_562.out _; (with_reducible repeat (first | refine blk_drewN ?_ _ | refine blk_drew ?_ | refine blk_alloc ?_ _)); exact BK557.out) hb); have n1_ := Aside0.mk (blk_below (g := gb562) (o := .cells #[.int .i64 t558, .int .i64 t559, .int .i64 t560] 23 (0, 0)) (by (with_reducible repeat (first | refine blk_drewN ?_ _ | refine blk_drew ?_ | refine blk_alloc ?_ _)); refine blk_put (cs := #[.int .i64 t558, .int .i64 t559, .int .i64 0]) ?_ 2 _ rfl; (with_reducible repeat (first | refine blk_drewN ?_ _ | refine blk_drew ?_ | refine blk_alloc ?_ _)); refine blk_put (cs := #[.int .i64 t558, .int .i64 0, .int .i64 0]) ?_ 1 _ rfl; (with_reducible repeat (first | refine blk_drewN ?_ _ | refine blk_drew ?_ | refine blk_alloc ?_ _)); refine blk_put (cs := #[.int .i64 0, .int .i64 0, .int .i64 0]) ?_ 0 _ rfl; (with_reducible repeat (first | refine blk_drewN ?_ _ | refine blk_drew ?_ | refine blk_alloc ?_ _)); exact BK562.out) hb); have n2_ := Aside0.mk (below_step (by repeat (first | (with_reducible first | exact HB.out | apply below_alloc | apply pw_below_drewN | apply below_drew1 | refine below_set ?_ GE557.out | refine below_set ?_ GE562.out) | exact HB.out)) hb); clear BK557; clear BK562; clear HB; have BK557 := n0_; have BK562 := n1_; have HB := n2_; clear n0_ n1_ n2_; (try clear hb); (try clear hb2); (try clear hk); (try clear hi)) | ((with_reducible refine gate_dst (N := 9) rfl ?_); refine box_event ?hg (N := 9) ?hd (cs := #[.int .i64 0, .int .i64 0, .int .i64 0]) (t := 23) ?hr ?_; (case hd => rfl); (case hg => rfl); (case hr => first | (go_simp; done) | (go_simp; rfl)); intro gb567 hg w13 hbox hb; have n0_ := Aside0.mk (blk_below (g := gb557) (o := .cells #[.int .i64 a0_0, .int .i64 a0_1, .int .i64 a0_2] 23 (0, 0)) (by (with_reducible repeat (first | refine blk_drewN ?_ _ | refine blk_drew ?_ | refine blk_alloc ?_ _)); exact BK557.out) hb); have n1_ := Aside0.mk (blk_below (g := gb562) (o := .cells #[.int .i64 t558, .int .i64 t559, .int .i64 t560] 23 (0, 0)) (by (with_reducible repeat (first | refine blk_drewN ?_ _ | refine blk_drew ?_ | refine blk_alloc ?_ _)); exact BK562.out) hb); have n2_ := Aside0.mk (below_step (by repeat (first | (with_reducible first | exact HB.out | apply below_alloc | apply pw_below_drewN | apply below_drew1 | refine below_set ?_ GE557.out | refine below_set ?_ GE562.out) | exact HB.out)) hb); have n3_ := Aside0.mk (hbox); have n4_ := Aside0.mk ((by rw [hg]; exact (below_size (by repeat (first | (with_reducible first | exact HB.out | apply below_alloc | apply pw_below_drewN | apply below_drew1 | refine below_set ?_ GE557.out | refine below_set ?_ GE562.out) | exact HB.out))) : w.heap.size ≤ gb567)); have n5_ := Aside0.mk ((by rw [hg]; exact (below_size (by repeat (first | (with_reducible first | exact HB.out | apply below_alloc | apply pw_below_drewN | apply below_drew1 | refine below_set ?_ GE557.out | refine below_set ?_ GE562.out) | exact HB.out))) : w.heap.size ≤ gb567)); have n6_ := Aside0.mk ((by rw [hg]; exact Nat.ne_of_lt (blk_lt (g := gb557) (o := .cells #[.int .i64 a0_0, .int .i64 a0_1, .int .i64 a0_2] 23 (0, 0)) (by (with_reducible repeat (first | refine blk_drewN ?_ _ | refine blk_drew ?_ | refine blk_alloc ?_ _)); exact BK557.out)) : gb557 ≠ gb567)); have n7_ := Aside0.mk ((by rw [hg]; exact Nat.ne_of_gt (blk_lt (g := gb557) (o := .cells #[.int .i64 a0_0, .int .i64 a0_1, .int .i64 a0_2] 23 (0, 0)) (by (with_reducible repeat (first | refine blk_drewN ?_ _ | refine blk_drew ?_ | refine blk_alloc ?_ _)); exact BK557.out)) : gb567 ≠ gb557)); have n8_ := Aside0.mk ((by rw [hg]; exact Nat.ne_of_lt (blk_lt (g := gb562) (o := .cells #[.int .i64 t558, .int .i64 t559, .int .i64 t560] 23 (0, 0)) (by (with_reducible repeat (first | refine blk_drewN ?_ _ | refine blk_drew ?_ | refine blk_alloc ?_ _)); exact BK562.out)) : gb562 ≠ gb567)); have n9_ := Aside0.mk ((by rw [hg]; exact Nat.ne_of_gt (blk_lt (g := gb562) (o := .cells #[.int .i64 t558, .int .i64 t559, .int .i64 t560] 23 (0, 0)) (by (with_reducible repeat (first | refine blk_drewN ?_ _ | refine blk_drew ?_ | refine blk_alloc ?_ _)); exact BK562.out)) : gb567 ≠ gb562)); clear BK557; clear BK562; clear HB; have BK557 := n0_; have BK562 := n1_; have HB := n2_; have BK567 := n3_; have GW567 := n4_; have GE567 := n5_; have NB557_567 := n6_; have NB567_557 := n7_; have NB562_567 := n8_; have NB567_562 := n9_; clear n0_ n1_ n2_ n3_ n4_ n5_ n6_ n7_ n8_ n9_; clear hb hbox hg; have hnb14 := NB567_557.out; have hnc14 := NB557_567.out; have hnb15 := NB567_562.out; have hnc15 := NB562_567.out; have hcz16_0 : w13.cell? ⟨gb567, 0, none⟩ = some (.int .i64 0) := (blk_cell BK567.out 0).trans rfl; have hcz16_1 : w13.cell? ⟨gb567, 1, none⟩ = some (.int .i64 0) := (blk_cell BK567.out 1).trans rfl; have hcz16_2 : w13.cell? ⟨gb567, 2, none⟩ = some (.int .i64 0) := (blk_cell BK567.out 2).trans rfl; have hfz16_0 := blk_frozen BK567.out 0; have hfz16_1 := blk_frozen BK567.out 1; have hfz16_2 := blk_frozen BK567.out 2))
  (try simp only [Act.put, List.setIfInBounds_toArray, List.set_cons_zero, List.set_cons_succ])
  go_cut [39] (fun v39 wc => ∃ (kq : Nat) (x39_5 : Bool), v39 = .bool x39_5 ∧ Aside0 (tipstafflaw16_PanelSteps.j0 kq a1 a2 x39_5 a0_0 a0_1 a0_2 = some r) ∧ Aside0 (kq ≤ k) ∧ Aside0 (wc.heap[gb557]? = some (.cells #[.int .i64 a0_0, .int .i64 a0_1, .int .i64 a0_2] 23 (0, 0))) ∧ Aside0 (wc.heap[gb562]? = some (.cells #[.int .i64 t558, .int .i64 t559, .int .i64 t560] 23 (0, 0))) ∧ Aside0 (wc.heap[gb567]? = some (.cells #[.int .i64 t563, .int .i64 t564, .int .i64 t565] 23 (0, 0))) ∧ Aside0 (Below w.heap.size w wc))
  case first =>
    have H := HC6.out
    clear HC6
    by_cases c17 : (!(t558 == t563) || (!(t559 == t564) || (!(t560 == t565)))) = true
    · rw [if_pos c17] at H
      have c17b0 : (!(t558 == t563) || (!(t559 == t564) || (!(t560 == t565)))) = true := c17
      clear c17
      (first | rw [c17b0] | (simp only [i64_w, i32_w]; rw [c17b0]) | skip)
      have H' := Aside0.mk H
      clear H
      try go_wp2
      have n0_ : Aside0 ((((w13.setCell ⟨gb567, 0, none⟩ (.int .i64 t563)).setCell ⟨gb567, 1, none⟩ (.int .i64 t564)).setCell ⟨gb567, 2, none⟩ (.int .i64 t565)).heap[gb557]? = some (.cells #[.int .i64 a0_0, .int .i64 a0_1, .int .i64 a0_2] 23 (0, 0))) := ⟨by (with_reducible repeat (first | refine blk_drewN ?_ _ | refine blk_drew ?_ | refine blk_alloc ?_ _)); refine blk_far ?_ NB557_567.out _; (with_reducible repeat (first | refine blk_drewN ?_ _ | refine blk_drew ?_ | refine blk_alloc ?_ _)); refine blk_far ?_ NB557_567.out _; (with_reducible repeat (first | refine blk_drewN ?_ _ | refine blk_drew ?_ | refine blk_alloc ?_ _)); refine blk_far ?_ NB557_567.out _; (with_reducible repeat (first | refine blk_drewN ?_ _ | refine blk_drew ?_ | refine blk_alloc ?_ _)); exact BK557.out⟩
      have n1_ : Aside0 ((((w13.setCell ⟨gb567, 0, none⟩ (.int .i64 t563)).setCell ⟨gb567, 1, none⟩ (.int .i64 t564)).setCell ⟨gb567, 2, none⟩ (.int .i64 t565)).heap[gb562]? = some (.cells #[.int .i64 t558, .int .i64 t559, .int .i64 t560] 23 (0, 0))) := ⟨by (with_reducible repeat (first | refine blk_drewN ?_ _ | refine blk_drew ?_ | refine blk_alloc ?_ _)); refine blk_far ?_ NB562_567.out _; (with_reducible repeat (first | refine blk_drewN ?_ _ | refine blk_drew ?_ | refine blk_alloc ?_ _)); refine blk_far ?_ NB562_567.out _; (with_reducible repeat (first | refine blk_drewN ?_ _ | refine blk_drew ?_ | refine blk_alloc ?_ _)); refine blk_far ?_ NB562_567.out _; (with_reducible repeat (first | refine blk_drewN ?_ _ | refine blk_drew ?_ | refine blk_alloc ?_ _)); exact BK562.out⟩
      have n2_ : Aside0 ((((w13.setCell ⟨gb567, 0, none⟩ (.int .i64 t563)).setCell ⟨gb567, 1, none⟩ (.int .i64 t564)).setCell ⟨gb567, 2, none⟩ (.int .i64 t565)).heap[gb567]? = some (.cells #[.int .i64 t563, .int .i64 t564, .int .i64 t565] 23 (0, 0))) := ⟨by (with_reducible repeat (first | refine blk_drewN ?_ _ | refine blk_drew ?_ | refine blk_alloc ?_ _)); refine blk_put (cs := #[.int .i64 t563, .int .i64 t564, .int .i64 0]) ?_ 2 _ rfl; (with_reducible repeat (first | refine blk_drewN ?_ _ | refine blk_drew ?_ | refine blk_alloc ?_ _)); refine blk_put (cs := #[.int .i64 t563, .int .i64 0, .int .i64 0]) ?_ 1 _ rfl; (with_reducible repeat (first | refine blk_drewN ?_ _ | refine blk_drew ?_ | refine blk_alloc ?_ _)); refine blk_put (cs := #[.int .i64 0, .int .i64 0, .int .i64 0]) ?_ 0 _ rfl; (with_reducible repeat (first | refine blk_drewN ?_ _ | refine blk_drew ?_ | refine blk_alloc ?_ _)); exact BK567.out⟩
      have n3_ : Aside0 (Below w.heap.size w (((w13.setCell ⟨gb567, 0, none⟩ (.int .i64 t563)).setCell ⟨gb567, 1, none⟩ (.int .i64 t564)).setCell ⟨gb567, 2, none⟩ (.int .i64 t565))) := ⟨by repeat (first | (with_reducible first | exact HB.out | apply below_alloc | apply pw_below_drewN | apply below_drew1 | refine below_set ?_ GE557.out | refine below_set ?_ GE562.out | refine below_set ?_ GE567.out) | exact HB.out)⟩
      (try clear BK557)
      (try clear BK562)
      (try clear BK567)
      (try clear HB)
      generalize (((w13.setCell ⟨gb567, 0, none⟩ (.int .i64 t563)).setCell ⟨gb567, 1, none⟩ (.int .i64 t564)).setCell ⟨gb567, 2, none⟩ (.int .i64 t565)) = w18 at n0_ n1_ n2_ n3_ ⊢
      have BK557 := n0_
      have BK562 := n1_
      have BK567 := n2_
      have HB := n3_
      clear n0_ n1_ n2_ n3_
      have n0_ := Aside0.mk (blk_drew BK557.out)
      have n1_ := Aside0.mk (blk_drew BK562.out)
      have n2_ := Aside0.mk (blk_drew BK567.out)
      have n3_ := Aside0.mk (below_drew1 HB.out)
      clear BK557
      clear BK562
      clear BK567
      clear HB
      have BK557 := n0_
      have BK562 := n1_
      have BK567 := n2_
      have HB := n3_
      clear n0_ n1_ n2_ n3_
      refine start_ (n := 15) (S := fun w' => w'.cell? ⟨gb562, 0, none⟩ = some (.int .i64 t558) ∧ w'.cell? ⟨gb562, 1, none⟩ = some (.int .i64 t559) ∧ w'.cell? ⟨gb562, 2, none⟩ = some (.int .i64 t560) ∧ w'.cell? ⟨gb567, 0, none⟩ = some (.int .i64 t563) ∧ w'.cell? ⟨gb567, 1, none⟩ = some (.int .i64 t564) ∧ w'.cell? ⟨gb567, 2, none⟩ = some (.int .i64 t565)) (ds := []) #[false, false, false, false, false, false, false, false, false, false, false, false, false, false, false] (by kernel_rfl) rfl rfl ⟨(blk_cell BK562.out 0).trans rfl, (blk_cell BK562.out 1).trans rfl, (blk_cell BK562.out 2).trans rfl, (blk_cell BK567.out 0).trans rfl, (blk_cell BK567.out 1).trans rfl, (blk_cell BK567.out 2).trans rfl⟩ (fun hHeld => ?_); refine with_tabW tipstafflaw16_PanelSteps.tab3 tipstafflaw16_PanelSteps.bits3 (fun HT_ HW_ => ?_)
      generalize w18.drew = w19 at BK557 BK562 BK567 HB hHeld ⊢
      refine take_ (i := 0) (N := some 25) (v := ?_) (a' := ?_) #[true, false, false, false, false, false, false, false, false, false, false, false, false, false, false] rfl rfl (take_ofW HT_.out HW_.out (by kernel_rfl)) (fun _ _ _ h => h) (Or.inl ⟨by rfl, ?_⟩) hHeld ?_ ?_
      rotate_left
      · rintro w' ⟨s0, s1, s2, s3, s4, s5⟩
        go_simp
        with_reducible rfl
      rotate_left
      · simp only [Act.put, List.setIfInBounds_toArray, List.set_cons_zero, List.set_cons_succ, i64_w, i32_w]
        rfl
      refine take_ (i := 1) (N := some 26) (v := ?_) (a' := ?_) #[true, true, false, false, false, false, false, false, false, false, false, false, false, false, false] rfl rfl (take_ofW HT_.out HW_.out (by kernel_rfl)) (fun _ _ _ h => h) (Or.inl ⟨by rfl, ?_⟩) hHeld ?_ ?_
      rotate_left
      · rintro w' ⟨s0, s1, s2, s3, s4, s5⟩
        go_simp
        with_reducible rfl
      rotate_left
      · simp only [Act.put, List.setIfInBounds_toArray, List.set_cons_zero, List.set_cons_succ, i64_w, i32_w]
        rfl
      refine pure_ (i := 2) (N := some 27) (v := ?_) (a' := ?_) #[true, true, true, false, false, false, false, false, false, false, false, false, false, false, false] rfl rfl (any_of HT_.out (by kernel_rfl)) (fun _ _ _ h => h) (Or.inl ⟨by rfl, ?_⟩) ?_ ?_
      rotate_left
      · intro w'
        go_simp
        with_reducible rfl
      rotate_left
      · simp only [Act.put, List.setIfInBounds_toArray, List.set_cons_zero, List.set_cons_succ, i64_w, i32_w]
        rfl
      refine pure_ (i := 3) (N := some 28) (v := ?_) (a' := ?_) #[true, true, true, true, false, false, false, false, false, false, false, false, false, false, false] rfl rfl (any_of HT_.out (by kernel_rfl)) (fun _ _ _ h => h) (Or.inl ⟨by rfl, ?_⟩) ?_ ?_
      rotate_left
      · intro w'
        go_simp
        with_reducible rfl
      rotate_left
      · simp only [Act.put, List.setIfInBounds_toArray, List.set_cons_zero, List.set_cons_succ, i64_w, i32_w]
        rfl
      refine pure_ (i := 4) (N := some 29) (v := undef) (a' := ?_) #[true, true, true, true, true, false, false, false, false, false, false, false, false, false, false] rfl rfl (any_of HT_.out (by kernel_rfl)) (fun _ _ _ h => h) (Or.inr ⟨by rfl, rfl⟩) ?_ ?_
      rotate_left
      · simp only [Act.put, List.setIfInBounds_toArray, List.set_cons_zero, List.set_cons_succ, i64_w, i32_w]
        rfl
      refine pure_ (i := 5) (N := some 30) (v := undef) (a' := ?_) #[true, true, true, true, true, true, false, false, false, false, false, false, false, false, false] rfl rfl (any_of HT_.out (by kernel_rfl)) (fun _ _ _ h => h) (Or.inr ⟨by rfl, rfl⟩) ?_ ?_
      rotate_left
      · simp only [Act.put, List.setIfInBounds_toArray, List.set_cons_zero, List.set_cons_succ, i64_w, i32_w]
        rfl
      refine pure_ (i := 6) (N := some 31) (v := undef) (a' := ?_) #[true, true, true, true, true, true, true, false, false, false, false, false, false, false, false] rfl rfl (any_of HT_.out (by kernel_rfl)) (fun _ _ _ h => h) (Or.inr ⟨by rfl, rfl⟩) ?_ ?_
      rotate_left
      · simp only [Act.put, List.setIfInBounds_toArray, List.set_cons_zero, List.set_cons_succ, i64_w, i32_w]
        rfl
      refine pure_ (i := 7) (N := some 32) (v := ?_) (a' := ?_) #[true, true, true, true, true, true, true, true, false, false, false, false, false, false, false] rfl rfl (any_of HT_.out (by kernel_rfl)) (fun _ _ _ h => h) (Or.inl ⟨by rfl, ?_⟩) ?_ ?_
      rotate_left
      · intro w'
        go_simp
        with_reducible rfl
      rotate_left
      · simp only [Act.put, List.setIfInBounds_toArray, List.set_cons_zero, List.set_cons_succ, i64_w, i32_w]
        rfl
      refine pure_ (i := 8) (N := some 33) (v := ?_) (a' := ?_) #[true, true, true, true, true, true, true, true, true, false, false, false, false, false, false] rfl rfl (any_of HT_.out (by kernel_rfl)) (fun _ _ _ h => h) (Or.inl ⟨by rfl, ?_⟩) ?_ ?_
      rotate_left
      · intro w'
        go_simp
        with_reducible rfl
      rotate_left
      · simp only [Act.put, List.setIfInBounds_toArray, List.set_cons_zero, List.set_cons_succ, i64_w, i32_w]
        rfl
      refine pure_ (i := 9) (N := some 34) (v := undef) (a' := ?_) #[true, true, true, true, true, true, true, true, true, true, false, false, false, false, false] rfl rfl (any_of HT_.out (by kernel_rfl)) (fun _ _ _ h => h) (Or.inr ⟨by rfl, rfl⟩) ?_ ?_
      rotate_left
      · simp only [Act.put, List.setIfInBounds_toArray, List.set_cons_zero, List.set_cons_succ, i64_w, i32_w]
        rfl
      refine pure_ (i := 10) (N := some 35) (v := undef) (a' := ?_) #[true, true, true, true, true, true, true, true, true, true, true, false, false, false, false] rfl rfl (any_of HT_.out (by kernel_rfl)) (fun _ _ _ h => h) (Or.inr ⟨by rfl, rfl⟩) ?_ ?_
      rotate_left
      · simp only [Act.put, List.setIfInBounds_toArray, List.set_cons_zero, List.set_cons_succ, i64_w, i32_w]
        rfl
      refine pure_ (i := 11) (N := some 36) (v := undef) (a' := ?_) #[true, true, true, true, true, true, true, true, true, true, true, true, false, false, false] rfl rfl (any_of HT_.out (by kernel_rfl)) (fun _ _ _ h => h) (Or.inr ⟨by rfl, rfl⟩) ?_ ?_
      rotate_left
      · simp only [Act.put, List.setIfInBounds_toArray, List.set_cons_zero, List.set_cons_succ, i64_w, i32_w]
        rfl
      refine pure_ (i := 12) (N := some 37) (v := undef) (a' := ?_) #[true, true, true, true, true, true, true, true, true, true, true, true, true, false, false] rfl rfl (any_of HT_.out (by kernel_rfl)) (fun _ _ _ h => h) (Or.inr ⟨by rfl, rfl⟩) ?_ ?_
      rotate_left
      · simp only [Act.put, List.setIfInBounds_toArray, List.set_cons_zero, List.set_cons_succ, i64_w, i32_w]
        rfl
      refine pure_ (i := 13) (N := some 38) (v := undef) (a' := ?_) #[true, true, true, true, true, true, true, true, true, true, true, true, true, true, false] rfl rfl (any_of HT_.out (by kernel_rfl)) (fun _ _ _ h => h) (Or.inr ⟨by rfl, rfl⟩) ?_ ?_
      rotate_left
      · simp only [Act.put, List.setIfInBounds_toArray, List.set_cons_zero, List.set_cons_succ, i64_w, i32_w]
        rfl
      refine pure_ (i := 14) (N := some 39) (v := ?_) (a' := ?_) #[true, true, true, true, true, true, true, true, true, true, true, true, true, true, true] rfl rfl (any_of HT_.out (by kernel_rfl)) (fun _ _ _ h => h) (Or.inl ⟨by rfl, ?_⟩) ?_ ?_
      rotate_left
      · intro w'
        go_simp
        with_reducible rfl
      rotate_left
      · simp only [Act.put, List.setIfInBounds_toArray, List.set_cons_zero, List.set_cons_succ, i64_w, i32_w]
        rfl
      refine done_ (done_of HT_.out (by kernel_rfl)) ?_
      try go_wp2
      go_meet
      case rel => exact ⟨_, (true), (by first | rfl | (simp; done) | (simp [*]; done)), H', ⟨by first | omega | exact Nat.le_refl _⟩, ⟨by (with_reducible repeat (first | refine blk_drewN ?_ _ | refine blk_drew ?_ | refine blk_alloc ?_ _)); exact BK557.out⟩, ⟨by (with_reducible repeat (first | refine blk_drewN ?_ _ | refine blk_drew ?_ | refine blk_alloc ?_ _)); exact BK562.out⟩, ⟨by (with_reducible repeat (first | refine blk_drewN ?_ _ | refine blk_drew ?_ | refine blk_alloc ?_ _)); exact BK567.out⟩, ⟨by repeat (first | (with_reducible first | exact HB.out | apply below_alloc | apply pw_below_drewN | apply below_drew1 | refine below_set ?_ GE557.out | refine below_set ?_ GE562.out | refine below_set ?_ GE567.out) | exact HB.out)⟩⟩
    · rw [if_neg c17] at H
      have c17b0 : (!(t558 == t563) || (!(t559 == t564) || (!(t560 == t565)))) = false := by simpa using c17
      clear c17
      (first | rw [c17b0] | (simp only [i64_w, i32_w]; rw [c17b0]) | skip)
      by_cases c20 : t561 = t566
      · rw [if_pos c20] at H
        have c20b0 : (t561 == t566) = true := beq_iff_eq.mpr c20
        have c20b1 : (t561 != t566) = false := bne_eq_false_iff_eq.mpr c20
        clear c20
        replace H := Option.bind_eq_some_iff.mp H
        obtain ⟨t568, A210, H⟩ := H
        replace H : ((tipstaffref16_Check.f k a0_0 a0_1 a0_2).bind fun t569 => (tipstafflaw16_PanelSteps.j0 k a1 a2 (t568 != t569) a0_0 a0_1 a0_2)) = some r := H
        have A21 := Aside0.mk A210
        clear A210
        replace H := Option.bind_eq_some_iff.mp H
        obtain ⟨t569, A220, H⟩ := H
        replace H : (tipstafflaw16_PanelSteps.j0 k a1 a2 (t568 != t569) a0_0 a0_1 a0_2) = some r := H
        have A22 := Aside0.mk A220
        clear A220
        have H' := Aside0.mk H
        clear H
        try go_wp2
        have n0_ : Aside0 ((((w13.setCell ⟨gb567, 0, none⟩ (.int .i64 t563)).setCell ⟨gb567, 1, none⟩ (.int .i64 t564)).setCell ⟨gb567, 2, none⟩ (.int .i64 t565)).heap[gb557]? = some (.cells #[.int .i64 a0_0, .int .i64 a0_1, .int .i64 a0_2] 23 (0, 0))) := ⟨by (with_reducible repeat (first | refine blk_drewN ?_ _ | refine blk_drew ?_ | refine blk_alloc ?_ _)); refine blk_far ?_ NB557_567.out _; (with_reducible repeat (first | refine blk_drewN ?_ _ | refine blk_drew ?_ | refine blk_alloc ?_ _)); refine blk_far ?_ NB557_567.out _; (with_reducible repeat (first | refine blk_drewN ?_ _ | refine blk_drew ?_ | refine blk_alloc ?_ _)); refine blk_far ?_ NB557_567.out _; (with_reducible repeat (first | refine blk_drewN ?_ _ | refine blk_drew ?_ | refine blk_alloc ?_ _)); exact BK557.out⟩
        have n1_ : Aside0 ((((w13.setCell ⟨gb567, 0, none⟩ (.int .i64 t563)).setCell ⟨gb567, 1, none⟩ (.int .i64 t564)).setCell ⟨gb567, 2, none⟩ (.int .i64 t565)).heap[gb562]? = some (.cells #[.int .i64 t558, .int .i64 t559, .int .i64 t560] 23 (0, 0))) := ⟨by (with_reducible repeat (first | refine blk_drewN ?_ _ | refine blk_drew ?_ | refine blk_alloc ?_ _)); refine blk_far ?_ NB562_567.out _; (with_reducible repeat (first | refine blk_drewN ?_ _ | refine blk_drew ?_ | refine blk_alloc ?_ _)); refine blk_far ?_ NB562_567.out _; (with_reducible repeat (first | refine blk_drewN ?_ _ | refine blk_drew ?_ | refine blk_alloc ?_ _)); refine blk_far ?_ NB562_567.out _; (with_reducible repeat (first | refine blk_drewN ?_ _ | refine blk_drew ?_ | refine blk_alloc ?_ _)); exact BK562.out⟩
        have n2_ : Aside0 ((((w13.setCell ⟨gb567, 0, none⟩ (.int .i64 t563)).setCell ⟨gb567, 1, none⟩ (.int .i64 t564)).setCell ⟨gb567, 2, none⟩ (.int .i64 t565)).heap[gb567]? = some (.cells #[.int .i64 t563, .int .i64 t564, .int .i64 t565] 23 (0, 0))) := ⟨by (with_reducible repeat (first | refine blk_drewN ?_ _ | refine blk_drew ?_ | refine blk_alloc ?_ _)); refine blk_put (cs := #[.int .i64 t563, .int .i64 t564, .int .i64 0]) ?_ 2 _ rfl; (with_reducible repeat (first | refine blk_drewN ?_ _ | refine blk_drew ?_ | refine blk_alloc ?_ _)); refine blk_put (cs := #[.int .i64 t563, .int .i64 0, .int .i64 0]) ?_ 1 _ rfl; (with_reducible repeat (first | refine blk_drewN ?_ _ | refine blk_drew ?_ | refine blk_alloc ?_ _)); refine blk_put (cs := #[.int .i64 0, .int .i64 0, .int .i64 0]) ?_ 0 _ rfl; (with_reducible repeat (first | refine blk_drewN ?_ _ | refine blk_drew ?_ | refine blk_alloc ?_ _)); exact BK567.out⟩
        have n3_ : Aside0 (Below w.heap.size w (((w13.setCell ⟨gb567, 0, none⟩ (.int .i64 t563)).setCell ⟨gb567, 1, none⟩ (.int .i64 t564)).setCell ⟨gb567, 2, none⟩ (.int .i64 t565))) := ⟨by repeat (first | (with_reducible first | exact HB.out | apply below_alloc | apply pw_below_drewN | apply below_drew1 | refine below_set ?_ GE557.out | refine below_set ?_ GE562.out | refine below_set ?_ GE567.out) | exact HB.out)⟩
        (try clear BK557)
        (try clear BK562)
        (try clear BK567)
        (try clear HB)
        generalize (((w13.setCell ⟨gb567, 0, none⟩ (.int .i64 t563)).setCell ⟨gb567, 1, none⟩ (.int .i64 t564)).setCell ⟨gb567, 2, none⟩ (.int .i64 t565)) = w23 at n0_ n1_ n2_ n3_ ⊢
        have BK557 := n0_
        have BK562 := n1_
        have BK567 := n2_
        have HB := n3_
        clear n0_ n1_ n2_ n3_
        have n0_ := Aside0.mk (blk_drew BK557.out)
        have n1_ := Aside0.mk (blk_drew BK562.out)
        have n2_ := Aside0.mk (blk_drew BK567.out)
        have n3_ := Aside0.mk (below_drew1 HB.out)
        clear BK557
        clear BK562
        clear BK567
        clear HB
        have BK557 := n0_
        have BK562 := n1_
        have BK567 := n2_
        have HB := n3_
        clear n0_ n1_ n2_ n3_
        refine start_ (n := 15) (S := fun w' => w'.cell? ⟨gb562, 0, none⟩ = some (.int .i64 t558) ∧ w'.cell? ⟨gb562, 1, none⟩ = some (.int .i64 t559) ∧ w'.cell? ⟨gb562, 2, none⟩ = some (.int .i64 t560) ∧ w'.cell? ⟨gb567, 0, none⟩ = some (.int .i64 t563) ∧ w'.cell? ⟨gb567, 1, none⟩ = some (.int .i64 t564) ∧ w'.cell? ⟨gb567, 2, none⟩ = some (.int .i64 t565) ∧ w'.cell? ⟨gb557, 0, none⟩ = some (.int .i64 a0_0) ∧ w'.cell? ⟨gb557, 1, none⟩ = some (.int .i64 a0_1) ∧ w'.cell? ⟨gb557, 2, none⟩ = some (.int .i64 a0_2)) (ds := []) #[false, false, false, false, false, false, false, false, false, false, false, false, false, false, false] (by kernel_rfl) rfl rfl ⟨(blk_cell BK562.out 0).trans rfl, (blk_cell BK562.out 1).trans rfl, (blk_cell BK562.out 2).trans rfl, (blk_cell BK567.out 0).trans rfl, (blk_cell BK567.out 1).trans rfl, (blk_cell BK567.out 2).trans rfl, (blk_cell BK557.out 0).trans rfl, (blk_cell BK557.out 1).trans rfl, (blk_cell BK557.out 2).trans rfl⟩ (fun hHeld => ?_); refine with_tabW tipstafflaw16_PanelSteps.tab3 tipstafflaw16_PanelSteps.bits3 (fun HT_ HW_ => ?_)
        generalize w23.drew = w24 at BK557 BK562 BK567 HB hHeld ⊢
        refine take_ (i := 0) (N := some 25) (v := ?_) (a' := ?_) #[true, false, false, false, false, false, false, false, false, false, false, false, false, false, false] rfl rfl (take_ofW HT_.out HW_.out (by kernel_rfl)) (fun _ _ _ h => h) (Or.inl ⟨by rfl, ?_⟩) hHeld ?_ ?_
        rotate_left
        · rintro w' ⟨s0, s1, s2, s3, s4, s5, s6, s7, s8⟩
          go_simp
          with_reducible rfl
        rotate_left
        · simp only [Act.put, List.setIfInBounds_toArray, List.set_cons_zero, List.set_cons_succ, i64_w, i32_w]
          rfl
        refine take_ (i := 1) (N := some 26) (v := ?_) (a' := ?_) #[true, true, false, false, false, false, false, false, false, false, false, false, false, false, false] rfl rfl (take_ofW HT_.out HW_.out (by kernel_rfl)) (fun _ _ _ h => h) (Or.inl ⟨by rfl, ?_⟩) hHeld ?_ ?_
        rotate_left
        · rintro w' ⟨s0, s1, s2, s3, s4, s5, s6, s7, s8⟩
          go_simp
          with_reducible rfl
        rotate_left
        · simp only [Act.put, List.setIfInBounds_toArray, List.set_cons_zero, List.set_cons_succ, i64_w, i32_w]
          rfl
        refine pure_ (i := 2) (N := some 27) (v := ?_) (a' := ?_) #[true, true, true, false, false, false, false, false, false, false, false, false, false, false, false] rfl rfl (any_of HT_.out (by kernel_rfl)) (fun _ _ _ h => h) (Or.inl ⟨by rfl, ?_⟩) ?_ ?_
        rotate_left
        · intro w'
          go_simp
          with_reducible rfl
        rotate_left
        · simp only [Act.put, List.setIfInBounds_toArray, List.set_cons_zero, List.set_cons_succ, i64_w, i32_w]
          rfl
        refine pure_ (i := 3) (N := some 28) (v := ?_) (a' := ?_) #[true, true, true, true, false, false, false, false, false, false, false, false, false, false, false] rfl rfl (any_of HT_.out (by kernel_rfl)) (fun _ _ _ h => h) (Or.inl ⟨by rfl, ?_⟩) ?_ ?_
        rotate_left
        · intro w'
          go_simp
          with_reducible rfl
        rotate_left
        · simp only [Act.put, List.setIfInBounds_toArray, List.set_cons_zero, List.set_cons_succ, i64_w, i32_w]
          rfl
        refine pure_ (i := 4) (N := some 29) (v := ?_) (a' := ?_) #[true, true, true, true, true, false, false, false, false, false, false, false, false, false, false] rfl rfl (any_of HT_.out (by kernel_rfl)) (fun _ _ _ h => h) (Or.inl ⟨by rfl, ?_⟩) ?_ ?_
        rotate_left
        · intro w'
          go_simp
          with_reducible rfl
        rotate_left
        · simp only [Act.put, List.setIfInBounds_toArray, List.set_cons_zero, List.set_cons_succ, i64_w, i32_w]
          rfl
        refine pure_ (i := 5) (N := some 30) (v := ?_) (a' := ?_) #[true, true, true, true, true, true, false, false, false, false, false, false, false, false, false] rfl rfl (any_of HT_.out (by kernel_rfl)) (fun _ _ _ h => h) (Or.inl ⟨by rfl, ?_⟩) ?_ ?_
        rotate_left
        · intro w'
          go_simp
          with_reducible rfl
        rotate_left
        · simp only [Act.put, List.setIfInBounds_toArray, List.set_cons_zero, List.set_cons_succ, i64_w, i32_w]
          rfl
        refine pure_ (i := 6) (N := some 31) (v := ?_) (a' := ?_) #[true, true, true, true, true, true, true, false, false, false, false, false, false, false, false] rfl rfl (any_of HT_.out (by kernel_rfl)) (fun _ _ _ h => h) (Or.inl ⟨by rfl, ?_⟩) ?_ ?_
        rotate_left
        · intro w'
          go_simp
          with_reducible rfl
        rotate_left
        · simp only [Act.put, List.setIfInBounds_toArray, List.set_cons_zero, List.set_cons_succ, i64_w, i32_w]
          rfl
        refine pure_ (i := 7) (N := some 32) (v := ?_) (a' := ?_) #[true, true, true, true, true, true, true, true, false, false, false, false, false, false, false] rfl rfl (any_of HT_.out (by kernel_rfl)) (fun _ _ _ h => h) (Or.inl ⟨by rfl, ?_⟩) ?_ ?_
        rotate_left
        · intro w'
          go_simp
          with_reducible rfl
        rotate_left
        · simp only [Act.put, List.setIfInBounds_toArray, List.set_cons_zero, List.set_cons_succ, i64_w, i32_w]
          rfl
        refine pure_ (i := 8) (N := some 33) (v := ?_) (a' := ?_) #[true, true, true, true, true, true, true, true, true, false, false, false, false, false, false] rfl rfl (any_of HT_.out (by kernel_rfl)) (fun _ _ _ h => h) (Or.inl ⟨by rfl, ?_⟩) ?_ ?_
        rotate_left
        · intro w'
          go_simp
          with_reducible rfl
        rotate_left
        · simp only [Act.put, List.setIfInBounds_toArray, List.set_cons_zero, List.set_cons_succ, i64_w, i32_w]
          rfl
        refine take_ (i := 9) (N := some 34) (v := ?_) (a' := ?_) #[true, true, true, true, true, true, true, true, true, true, false, false, false, false, false] rfl rfl (take_ofW HT_.out HW_.out (by kernel_rfl)) (fun _ _ _ h => h) (Or.inl ⟨by rfl, ?_⟩) hHeld ?_ ?_
        rotate_left
        · rintro w' ⟨s0, s1, s2, s3, s4, s5, s6, s7, s8⟩
          go_simp
          with_reducible rfl
        rotate_left
        · simp only [Act.put, List.setIfInBounds_toArray, List.set_cons_zero, List.set_cons_succ, i64_w, i32_w]
          rfl
        refine take_ (i := 11) (N := some 36) (v := ?_) (a' := ?_) #[true, true, true, true, true, true, true, true, true, true, false, true, false, false, false] rfl rfl (take_ofW HT_.out HW_.out (by kernel_rfl)) (fun _ _ _ h => h) (Or.inl ⟨by rfl, ?_⟩) hHeld ?_ ?_
        rotate_left
        · rintro w' ⟨s0, s1, s2, s3, s4, s5, s6, s7, s8⟩
          go_simp
          with_reducible rfl
        rotate_left
        · simp only [Act.put, List.setIfInBounds_toArray, List.set_cons_zero, List.set_cons_succ, i64_w, i32_w]
          rfl
        refine one_ (i := 10) (N := some 35) #[true, true, true, true, true, true, true, true, true, true, true, true, false, false, false] rfl rfl (one_of HT_.out (by kernel_rfl)) (by decide) (fun K hK => ?_)
        refine goes_ Try.func24 (by kernel_rfl) rfl #[.agg #[.int .i64 a0_0, .int .i64 a0_1, .int .i64 a0_2]] (by rfl) rfl rfl (by (try simp only [List.map_toArray, List.map_cons, List.map_nil]); first | done | rfl | (simp only [List.length_drop, List.length_take]; rfl)) ?_
        with_reducible refine (panel_Check.calls k a0_0 a0_1 a0_2 t568 _ A21.out).mono ?_
        rintro e w25 ⟨rfl, hb⟩
        refine ⟨_, rfl, ?_⟩
        have n0_ := Aside0.mk (blk_below (g := gb557) (o := .cells #[.int .i64 a0_0, .int .i64 a0_1, .int .i64 a0_2] 23 (0, 0)) (by (with_reducible repeat (first | refine blk_drewN ?_ _ | refine blk_drew ?_ | refine blk_alloc ?_ _)); exact BK557.out) hb)
        have n1_ := Aside0.mk (blk_below (g := gb562) (o := .cells #[.int .i64 t558, .int .i64 t559, .int .i64 t560] 23 (0, 0)) (by (with_reducible repeat (first | refine blk_drewN ?_ _ | refine blk_drew ?_ | refine blk_alloc ?_ _)); exact BK562.out) hb)
        have n2_ := Aside0.mk (blk_below (g := gb567) (o := .cells #[.int .i64 t563, .int .i64 t564, .int .i64 t565] 23 (0, 0)) (by (with_reducible repeat (first | refine blk_drewN ?_ _ | refine blk_drew ?_ | refine blk_alloc ?_ _)); exact BK567.out) hb)
        have n3_ := Aside0.mk (below_step (by repeat (first | (with_reducible first | exact HB.out | apply below_alloc | apply pw_below_drewN | apply below_drew1 | refine below_set ?_ GE557.out | refine below_set ?_ GE562.out | refine below_set ?_ GE567.out) | exact HB.out)) hb)
        clear BK557
        clear BK562
        clear BK567
        clear HB
        have BK557 := n0_
        have BK562 := n1_
        have BK567 := n2_
        have HB := n3_
        clear n0_ n1_ n2_ n3_
        (try clear hb)
        (try clear hb2)
        (try clear hk)
        (try clear hi)
        refine hK.out _ _ ⟨(blk_cell BK562.out 0).trans rfl, (blk_cell BK562.out 1).trans rfl, (blk_cell BK562.out 2).trans rfl, (blk_cell BK567.out 0).trans rfl, (blk_cell BK567.out 1).trans rfl, (blk_cell BK567.out 2).trans rfl, (blk_cell BK557.out 0).trans rfl, (blk_cell BK557.out 1).trans rfl, (blk_cell BK557.out 2).trans rfl⟩ (fun hHeld => ?_)
        clear hK K
        refine norm_ (a' := ?_) ?_ ?_
        rotate_left
        · show Act.put _ (some 35) _ = _
          simp only [Act.put, List.setIfInBounds_toArray, List.set_cons_zero, List.set_cons_succ, i64_w, i32_w]
          rfl
        refine one_ (i := 12) (N := some 37) #[true, true, true, true, true, true, true, true, true, true, true, true, true, false, false] rfl rfl (one_of HT_.out (by kernel_rfl)) (by decide) (fun K hK => ?_)
        refine goes_ Try.func32 (by kernel_rfl) rfl #[.agg #[.int .i64 a0_0, .int .i64 a0_1, .int .i64 a0_2]] (by rfl) rfl rfl (by (try simp only [List.map_toArray, List.map_cons, List.map_nil]); first | done | rfl | (simp only [List.length_drop, List.length_take]; rfl)) ?_
        with_reducible refine (tipstaffref16_Check.calls k a0_0 a0_1 a0_2 t569 _ A22.out).mono ?_
        rintro e w26 ⟨rfl, hb⟩
        refine ⟨_, rfl, ?_⟩
        have n0_ := Aside0.mk (blk_below (g := gb557) (o := .cells #[.int .i64 a0_0, .int .i64 a0_1, .int .i64 a0_2] 23 (0, 0)) (by (with_reducible repeat (first | refine blk_drewN ?_ _ | refine blk_drew ?_ | refine blk_alloc ?_ _)); exact BK557.out) hb)
        have n1_ := Aside0.mk (blk_below (g := gb562) (o := .cells #[.int .i64 t558, .int .i64 t559, .int .i64 t560] 23 (0, 0)) (by (with_reducible repeat (first | refine blk_drewN ?_ _ | refine blk_drew ?_ | refine blk_alloc ?_ _)); exact BK562.out) hb)
        have n2_ := Aside0.mk (blk_below (g := gb567) (o := .cells #[.int .i64 t563, .int .i64 t564, .int .i64 t565] 23 (0, 0)) (by (with_reducible repeat (first | refine blk_drewN ?_ _ | refine blk_drew ?_ | refine blk_alloc ?_ _)); exact BK567.out) hb)
        have n3_ := Aside0.mk (below_step (by repeat (first | (with_reducible first | exact HB.out | apply below_alloc | apply pw_below_drewN | apply below_drew1 | refine below_set ?_ GE557.out | refine below_set ?_ GE562.out | refine below_set ?_ GE567.out) | exact HB.out)) hb)
        clear BK557
        clear BK562
        clear BK567
        clear HB
        have BK557 := n0_
        have BK562 := n1_
        have BK567 := n2_
        have HB := n3_
        clear n0_ n1_ n2_ n3_
        (try clear hb)
        (try clear hb2)
        (try clear hk)
        (try clear hi)
        refine hK.out _ _ ⟨(blk_cell BK562.out 0).trans rfl, (blk_cell BK562.out 1).trans rfl, (blk_cell BK562.out 2).trans rfl, (blk_cell BK567.out 0).trans rfl, (blk_cell BK567.out 1).trans rfl, (blk_cell BK567.out 2).trans rfl, (blk_cell BK557.out 0).trans rfl, (blk_cell BK557.out 1).trans rfl, (blk_cell BK557.out 2).trans rfl⟩ (fun hHeld => ?_)
        clear hK K
        refine norm_ (a' := ?_) ?_ ?_
        rotate_left
        · show Act.put _ (some 37) _ = _
          simp only [Act.put, List.setIfInBounds_toArray, List.set_cons_zero, List.set_cons_succ, i64_w, i32_w]
          rfl
        refine pure_ (i := 13) (N := some 38) (v := ?_) (a' := ?_) #[true, true, true, true, true, true, true, true, true, true, true, true, true, true, false] rfl rfl (any_of HT_.out (by kernel_rfl)) (fun _ _ _ h => h) (Or.inl ⟨by rfl, ?_⟩) ?_ ?_
        rotate_left
        · intro w'
          go_simp
          with_reducible rfl
        rotate_left
        · simp only [Act.put, List.setIfInBounds_toArray, List.set_cons_zero, List.set_cons_succ, i64_w, i32_w]
          rfl
        refine pure_ (i := 14) (N := some 39) (v := ?_) (a' := ?_) #[true, true, true, true, true, true, true, true, true, true, true, true, true, true, true] rfl rfl (any_of HT_.out (by kernel_rfl)) (fun _ _ _ h => h) (Or.inl ⟨by rfl, ?_⟩) ?_ ?_
        rotate_left
        · intro w'
          go_simp
          with_reducible rfl
        rotate_left
        · simp only [Act.put, List.setIfInBounds_toArray, List.set_cons_zero, List.set_cons_succ, i64_w, i32_w]
          rfl
        refine done_ (done_of HT_.out (by kernel_rfl)) ?_
        try go_wp2
        go_meet
        case rel => exact ⟨_, ((t568 != t569)), (by first | rfl | (simp; done) | (simp [*]; done)), H', ⟨by first | omega | exact Nat.le_refl _⟩, ⟨by (with_reducible repeat (first | refine blk_drewN ?_ _ | refine blk_drew ?_ | refine blk_alloc ?_ _)); exact BK557.out⟩, ⟨by (with_reducible repeat (first | refine blk_drewN ?_ _ | refine blk_drew ?_ | refine blk_alloc ?_ _)); exact BK562.out⟩, ⟨by (with_reducible repeat (first | refine blk_drewN ?_ _ | refine blk_drew ?_ | refine blk_alloc ?_ _)); exact BK567.out⟩, ⟨by repeat (first | (with_reducible first | exact HB.out | apply below_alloc | apply pw_below_drewN | apply below_drew1 | refine below_set ?_ GE557.out | refine below_set ?_ GE562.out | refine below_set ?_ GE567.out) | exact HB.out)⟩⟩
      · rw [if_neg c20] at H
        have c20b0 : (t561 == t566) = false := beq_eq_false_iff_ne.mpr c20
        have c20b1 : (t561 != t566) = true := bne_iff_ne.mpr c20
        have H' := Aside0.mk H
        clear H
        try go_wp2
        have n0_ : Aside0 ((((w13.setCell ⟨gb567, 0, none⟩ (.int .i64 t563)).setCell ⟨gb567, 1, none⟩ (.int .i64 t564)).setCell ⟨gb567, 2, none⟩ (.int .i64 t565)).heap[gb557]? = some (.cells #[.int .i64 a0_0, .int .i64 a0_1, .int .i64 a0_2] 23 (0, 0))) := ⟨by (with_reducible repeat (first | refine blk_drewN ?_ _ | refine blk_drew ?_ | refine blk_alloc ?_ _)); refine blk_far ?_ NB557_567.out _; (with_reducible repeat (first | refine blk_drewN ?_ _ | refine blk_drew ?_ | refine blk_alloc ?_ _)); refine blk_far ?_ NB557_567.out _; (with_reducible repeat (first | refine blk_drewN ?_ _ | refine blk_drew ?_ | refine blk_alloc ?_ _)); refine blk_far ?_ NB557_567.out _; (with_reducible repeat (first | refine blk_drewN ?_ _ | refine blk_drew ?_ | refine blk_alloc ?_ _)); exact BK557.out⟩
        have n1_ : Aside0 ((((w13.setCell ⟨gb567, 0, none⟩ (.int .i64 t563)).setCell ⟨gb567, 1, none⟩ (.int .i64 t564)).setCell ⟨gb567, 2, none⟩ (.int .i64 t565)).heap[gb562]? = some (.cells #[.int .i64 t558, .int .i64 t559, .int .i64 t560] 23 (0, 0))) := ⟨by (with_reducible repeat (first | refine blk_drewN ?_ _ | refine blk_drew ?_ | refine blk_alloc ?_ _)); refine blk_far ?_ NB562_567.out _; (with_reducible repeat (first | refine blk_drewN ?_ _ | refine blk_drew ?_ | refine blk_alloc ?_ _)); refine blk_far ?_ NB562_567.out _; (with_reducible repeat (first | refine blk_drewN ?_ _ | refine blk_drew ?_ | refine blk_alloc ?_ _)); refine blk_far ?_ NB562_567.out _; (with_reducible repeat (first | refine blk_drewN ?_ _ | refine blk_drew ?_ | refine blk_alloc ?_ _)); exact BK562.out⟩
        have n2_ : Aside0 ((((w13.setCell ⟨gb567, 0, none⟩ (.int .i64 t563)).setCell ⟨gb567, 1, none⟩ (.int .i64 t564)).setCell ⟨gb567, 2, none⟩ (.int .i64 t565)).heap[gb567]? = some (.cells #[.int .i64 t563, .int .i64 t564, .int .i64 t565] 23 (0, 0))) := ⟨by (with_reducible repeat (first | refine blk_drewN ?_ _ | refine blk_drew ?_ | refine blk_alloc ?_ _)); refine blk_put (cs := #[.int .i64 t563, .int .i64 t564, .int .i64 0]) ?_ 2 _ rfl; (with_reducible repeat (first | refine blk_drewN ?_ _ | refine blk_drew ?_ | refine blk_alloc ?_ _)); refine blk_put (cs := #[.int .i64 t563, .int .i64 0, .int .i64 0]) ?_ 1 _ rfl; (with_reducible repeat (first | refine blk_drewN ?_ _ | refine blk_drew ?_ | refine blk_alloc ?_ _)); refine blk_put (cs := #[.int .i64 0, .int .i64 0, .int .i64 0]) ?_ 0 _ rfl; (with_reducible repeat (first | refine blk_drewN ?_ _ | refine blk_drew ?_ | refine blk_alloc ?_ _)); exact BK567.out⟩
        have n3_ : Aside0 (Below w.heap.size w (((w13.setCell ⟨gb567, 0, none⟩ (.int .i64 t563)).setCell ⟨gb567, 1, none⟩ (.int .i64 t564)).setCell ⟨gb567, 2, none⟩ (.int .i64 t565))) := ⟨by repeat (first | (with_reducible first | exact HB.out | apply below_alloc | apply pw_below_drewN | apply below_drew1 | refine below_set ?_ GE557.out | refine below_set ?_ GE562.out | refine below_set ?_ GE567.out) | exact HB.out)⟩
        (try clear BK557)
        (try clear BK562)
        (try clear BK567)
        (try clear HB)
        generalize (((w13.setCell ⟨gb567, 0, none⟩ (.int .i64 t563)).setCell ⟨gb567, 1, none⟩ (.int .i64 t564)).setCell ⟨gb567, 2, none⟩ (.int .i64 t565)) = w27 at n0_ n1_ n2_ n3_ ⊢
        have BK557 := n0_
        have BK562 := n1_
        have BK567 := n2_
        have HB := n3_
        clear n0_ n1_ n2_ n3_
        have n0_ := Aside0.mk (blk_drew BK557.out)
        have n1_ := Aside0.mk (blk_drew BK562.out)
        have n2_ := Aside0.mk (blk_drew BK567.out)
        have n3_ := Aside0.mk (below_drew1 HB.out)
        clear BK557
        clear BK562
        clear BK567
        clear HB
        have BK557 := n0_
        have BK562 := n1_
        have BK567 := n2_
        have HB := n3_
        clear n0_ n1_ n2_ n3_
        refine start_ (n := 15) (S := fun w' => w'.cell? ⟨gb562, 0, none⟩ = some (.int .i64 t558) ∧ w'.cell? ⟨gb562, 1, none⟩ = some (.int .i64 t559) ∧ w'.cell? ⟨gb562, 2, none⟩ = some (.int .i64 t560) ∧ w'.cell? ⟨gb567, 0, none⟩ = some (.int .i64 t563) ∧ w'.cell? ⟨gb567, 1, none⟩ = some (.int .i64 t564) ∧ w'.cell? ⟨gb567, 2, none⟩ = some (.int .i64 t565)) (ds := []) #[false, false, false, false, false, false, false, false, false, false, false, false, false, false, false] (by kernel_rfl) rfl rfl ⟨(blk_cell BK562.out 0).trans rfl, (blk_cell BK562.out 1).trans rfl, (blk_cell BK562.out 2).trans rfl, (blk_cell BK567.out 0).trans rfl, (blk_cell BK567.out 1).trans rfl, (blk_cell BK567.out 2).trans rfl⟩ (fun hHeld => ?_); refine with_tabW tipstafflaw16_PanelSteps.tab3 tipstafflaw16_PanelSteps.bits3 (fun HT_ HW_ => ?_)
        generalize w27.drew = w28 at BK557 BK562 BK567 HB hHeld ⊢
        refine take_ (i := 0) (N := some 25) (v := ?_) (a' := ?_) #[true, false, false, false, false, false, false, false, false, false, false, false, false, false, false] rfl rfl (take_ofW HT_.out HW_.out (by kernel_rfl)) (fun _ _ _ h => h) (Or.inl ⟨by rfl, ?_⟩) hHeld ?_ ?_
        rotate_left
        · rintro w' ⟨s0, s1, s2, s3, s4, s5⟩
          go_simp
          with_reducible rfl
        rotate_left
        · simp only [Act.put, List.setIfInBounds_toArray, List.set_cons_zero, List.set_cons_succ, i64_w, i32_w]
          rfl
        refine take_ (i := 1) (N := some 26) (v := ?_) (a' := ?_) #[true, true, false, false, false, false, false, false, false, false, false, false, false, false, false] rfl rfl (take_ofW HT_.out HW_.out (by kernel_rfl)) (fun _ _ _ h => h) (Or.inl ⟨by rfl, ?_⟩) hHeld ?_ ?_
        rotate_left
        · rintro w' ⟨s0, s1, s2, s3, s4, s5⟩
          go_simp
          with_reducible rfl
        rotate_left
        · simp only [Act.put, List.setIfInBounds_toArray, List.set_cons_zero, List.set_cons_succ, i64_w, i32_w]
          rfl
        refine pure_ (i := 2) (N := some 27) (v := ?_) (a' := ?_) #[true, true, true, false, false, false, false, false, false, false, false, false, false, false, false] rfl rfl (any_of HT_.out (by kernel_rfl)) (fun _ _ _ h => h) (Or.inl ⟨by rfl, ?_⟩) ?_ ?_
        rotate_left
        · intro w'
          go_simp
          with_reducible rfl
        rotate_left
        · simp only [Act.put, List.setIfInBounds_toArray, List.set_cons_zero, List.set_cons_succ, i64_w, i32_w]
          rfl
        refine pure_ (i := 3) (N := some 28) (v := ?_) (a' := ?_) #[true, true, true, true, false, false, false, false, false, false, false, false, false, false, false] rfl rfl (any_of HT_.out (by kernel_rfl)) (fun _ _ _ h => h) (Or.inl ⟨by rfl, ?_⟩) ?_ ?_
        rotate_left
        · intro w'
          go_simp
          with_reducible rfl
        rotate_left
        · simp only [Act.put, List.setIfInBounds_toArray, List.set_cons_zero, List.set_cons_succ, i64_w, i32_w]
          rfl
        refine pure_ (i := 4) (N := some 29) (v := ?_) (a' := ?_) #[true, true, true, true, true, false, false, false, false, false, false, false, false, false, false] rfl rfl (any_of HT_.out (by kernel_rfl)) (fun _ _ _ h => h) (Or.inl ⟨by rfl, ?_⟩) ?_ ?_
        rotate_left
        · intro w'
          go_simp
          with_reducible rfl
        rotate_left
        · simp only [Act.put, List.setIfInBounds_toArray, List.set_cons_zero, List.set_cons_succ, i64_w, i32_w]
          rfl
        refine pure_ (i := 5) (N := some 30) (v := ?_) (a' := ?_) #[true, true, true, true, true, true, false, false, false, false, false, false, false, false, false] rfl rfl (any_of HT_.out (by kernel_rfl)) (fun _ _ _ h => h) (Or.inl ⟨by rfl, ?_⟩) ?_ ?_
        rotate_left
        · intro w'
          go_simp
          with_reducible rfl
        rotate_left
        · simp only [Act.put, List.setIfInBounds_toArray, List.set_cons_zero, List.set_cons_succ, i64_w, i32_w]
          rfl
        refine pure_ (i := 6) (N := some 31) (v := ?_) (a' := ?_) #[true, true, true, true, true, true, true, false, false, false, false, false, false, false, false] rfl rfl (any_of HT_.out (by kernel_rfl)) (fun _ _ _ h => h) (Or.inl ⟨by rfl, ?_⟩) ?_ ?_
        rotate_left
        · intro w'
          go_simp
          with_reducible rfl
        rotate_left
        · simp only [Act.put, List.setIfInBounds_toArray, List.set_cons_zero, List.set_cons_succ, i64_w, i32_w]
          rfl
        refine pure_ (i := 7) (N := some 32) (v := ?_) (a' := ?_) #[true, true, true, true, true, true, true, true, false, false, false, false, false, false, false] rfl rfl (any_of HT_.out (by kernel_rfl)) (fun _ _ _ h => h) (Or.inl ⟨by rfl, ?_⟩) ?_ ?_
        rotate_left
        · intro w'
          go_simp
          with_reducible rfl
        rotate_left
        · simp only [Act.put, List.setIfInBounds_toArray, List.set_cons_zero, List.set_cons_succ, i64_w, i32_w]
          rfl
        refine pure_ (i := 8) (N := some 33) (v := ?_) (a' := ?_) #[true, true, true, true, true, true, true, true, true, false, false, false, false, false, false] rfl rfl (any_of HT_.out (by kernel_rfl)) (fun _ _ _ h => h) (Or.inl ⟨by rfl, ?_⟩) ?_ ?_
        rotate_left
        · intro w'
          go_simp
          with_reducible rfl
        rotate_left
        · simp only [Act.put, List.setIfInBounds_toArray, List.set_cons_zero, List.set_cons_succ, i64_w, i32_w]
          rfl
        refine pure_ (i := 9) (N := some 34) (v := undef) (a' := ?_) #[true, true, true, true, true, true, true, true, true, true, false, false, false, false, false] rfl rfl (any_of HT_.out (by kernel_rfl)) (fun _ _ _ h => h) (Or.inr ⟨by rfl, rfl⟩) ?_ ?_
        rotate_left
        · simp only [Act.put, List.setIfInBounds_toArray, List.set_cons_zero, List.set_cons_succ, i64_w, i32_w]
          rfl
        refine pure_ (i := 10) (N := some 35) (v := undef) (a' := ?_) #[true, true, true, true, true, true, true, true, true, true, true, false, false, false, false] rfl rfl (any_of HT_.out (by kernel_rfl)) (fun _ _ _ h => h) (Or.inr ⟨by rfl, rfl⟩) ?_ ?_
        rotate_left
        · simp only [Act.put, List.setIfInBounds_toArray, List.set_cons_zero, List.set_cons_succ, i64_w, i32_w]
          rfl
        refine pure_ (i := 11) (N := some 36) (v := undef) (a' := ?_) #[true, true, true, true, true, true, true, true, true, true, true, true, false, false, false] rfl rfl (any_of HT_.out (by kernel_rfl)) (fun _ _ _ h => h) (Or.inr ⟨by rfl, rfl⟩) ?_ ?_
        rotate_left
        · simp only [Act.put, List.setIfInBounds_toArray, List.set_cons_zero, List.set_cons_succ, i64_w, i32_w]
          rfl
        refine pure_ (i := 12) (N := some 37) (v := undef) (a' := ?_) #[true, true, true, true, true, true, true, true, true, true, true, true, true, false, false] rfl rfl (any_of HT_.out (by kernel_rfl)) (fun _ _ _ h => h) (Or.inr ⟨by rfl, rfl⟩) ?_ ?_
        rotate_left
        · simp only [Act.put, List.setIfInBounds_toArray, List.set_cons_zero, List.set_cons_succ, i64_w, i32_w]
          rfl
        refine pure_ (i := 13) (N := some 38) (v := undef) (a' := ?_) #[true, true, true, true, true, true, true, true, true, true, true, true, true, true, false] rfl rfl (any_of HT_.out (by kernel_rfl)) (fun _ _ _ h => h) (Or.inr ⟨by rfl, rfl⟩) ?_ ?_
        rotate_left
        · simp only [Act.put, List.setIfInBounds_toArray, List.set_cons_zero, List.set_cons_succ, i64_w, i32_w]
          rfl
        refine pure_ (i := 14) (N := some 39) (v := ?_) (a' := ?_) #[true, true, true, true, true, true, true, true, true, true, true, true, true, true, true] rfl rfl (any_of HT_.out (by kernel_rfl)) (fun _ _ _ h => h) (Or.inl ⟨by rfl, ?_⟩) ?_ ?_
        rotate_left
        · intro w'
          go_simp
          with_reducible rfl
        rotate_left
        · simp only [Act.put, List.setIfInBounds_toArray, List.set_cons_zero, List.set_cons_succ, i64_w, i32_w]
          rfl
        refine done_ (done_of HT_.out (by kernel_rfl)) ?_
        try go_wp2
        go_meet
        case rel => exact ⟨_, (true), (by first | rfl | (simp; done) | (simp [*]; done)), H', ⟨by first | omega | exact Nat.le_refl _⟩, ⟨by (with_reducible repeat (first | refine blk_drewN ?_ _ | refine blk_drew ?_ | refine blk_alloc ?_ _)); exact BK557.out⟩, ⟨by (with_reducible repeat (first | refine blk_drewN ?_ _ | refine blk_drew ?_ | refine blk_alloc ?_ _)); exact BK562.out⟩, ⟨by (with_reducible repeat (first | refine blk_drewN ?_ _ | refine blk_drew ?_ | refine blk_alloc ?_ _)); exact BK567.out⟩, ⟨by repeat (first | (with_reducible first | exact HB.out | apply below_alloc | apply pw_below_drewN | apply below_drew1 | refine below_set ?_ GE557.out | refine below_set ?_ GE562.out | refine below_set ?_ GE567.out) | exact HB.out)⟩⟩
  case rest =>
    clear HC6
    try clear c1
    try clear c2
    try clear p2
    try clear c3
    try clear c8
    try clear c10
    try clear c14
    try clear c15
    try clear c17
    try clear c17b0
    try clear c18
    try clear c20
    try clear c20b0
    try clear c20b1
    try clear c24
    try clear hcz11_0
    try clear hcz11_1
    try clear hcz11_2
    try clear hcz16_0
    try clear hcz16_1
    try clear hcz16_2
    try clear hfz11_0
    try clear hfz11_1
    try clear hfz11_2
    try clear hfz16_0
    try clear hfz16_1
    try clear hfz16_2
    obtain ⟨kq, x39_5, rfl, HA, HJ5, BK557, BK562, BK567, HB⟩ := hcut
    cases kq with
    | zero => exact absurd HA.out (by simp [tipstafflaw16_PanelSteps.j0])
    | succ kj5 =>
      have H := HA.out
      clear HA
      simp only [tipstafflaw16_PanelSteps.j0] at H
      by_cases c29 : x39_5 = true
      · subst c29
        have H1 : (none) = some r := by rw [if_pos rfl] at H; exact H
        clear H
        have H := H1
        clear H1
        exact absurd H (by simp)
      · replace c29 := Bool.eq_false_iff.mpr c29
        subst c29
        have H1 : ((panel_Order.f kj5 a0_0 a0_1 a0_2 a1).bind fun bt570 => ((tipstaffref16_Order.f kj5 a0_0 a0_1 a0_2 a1).bind fun bt574 => (if (!(bt570.1 == bt574.1) || (!(bt570.2.1 == bt574.2.1) || (!(bt570.2.2.1 == bt574.2.2.1)))) = true then (tipstafflaw16_PanelSteps.j1 kj5 a2 true a0_0 a0_1 a0_2) else (tipstafflaw16_PanelSteps.j1 kj5 a2 (bt570.2.2.2 != bt574.2.2.2) a0_0 a0_1 a0_2)))) = some r := by rw [if_neg (show ¬ (false = true) by decide)] at H; exact H
        clear H
        have H := H1
        clear H1
        replace H := Option.bind_eq_some_iff.mp H
        obtain ⟨⟨t570, t571, t572, t573⟩, A300, H⟩ := H
        replace H : ((tipstaffref16_Order.f kj5 a0_0 a0_1 a0_2 a1).bind fun bt574 => (if (!(t570 == bt574.1) || (!(t571 == bt574.2.1) || (!(t572 == bt574.2.2.1)))) = true then (tipstafflaw16_PanelSteps.j1 kj5 a2 true a0_0 a0_1 a0_2) else (tipstafflaw16_PanelSteps.j1 kj5 a2 (t573 != bt574.2.2.2) a0_0 a0_1 a0_2))) = some r := H
        have A30 := Aside0.mk A300
        clear A300
        replace H := Option.bind_eq_some_iff.mp H
        obtain ⟨⟨t574, t575, t576, t577⟩, A310, H⟩ := H
        replace H : (if (!(t570 == t574) || (!(t571 == t575) || (!(t572 == t576)))) = true then (tipstafflaw16_PanelSteps.j1 kj5 a2 true a0_0 a0_1 a0_2) else (tipstafflaw16_PanelSteps.j1 kj5 a2 (t573 != t577) a0_0 a0_1 a0_2)) = some r := H
        have A31 := Aside0.mk A310
        clear A310
        have HC32 := Aside0.mk H
        clear H
        have hnb33 := NB557_562.out
        have hnc33 := NB562_557.out
        have hnb34 := NB557_567.out
        have hnc34 := NB567_557.out
        have hcz35_0 : wc.cell? ⟨gb557, 0, none⟩ = some (.int .i64 a0_0) := (blk_cell BK557.out 0).trans rfl
        have hcz35_1 : wc.cell? ⟨gb557, 1, none⟩ = some (.int .i64 a0_1) := (blk_cell BK557.out 1).trans rfl
        have hcz35_2 : wc.cell? ⟨gb557, 2, none⟩ = some (.int .i64 a0_2) := (blk_cell BK557.out 2).trans rfl
        have hfz35_0 := blk_frozen BK557.out 0
        have hfz35_1 := blk_frozen BK557.out 1
        have hfz35_2 := blk_frozen BK557.out 2
        go_upto_region 7 with (first | ((with_reducible refine gate_callee (f := 20) rfl ?_); refine goesL_ (some 43) rfl rfl Try.func20 (by kernel_rfl) rfl #[.agg #[.int .i64 a0_0, .int .i64 a0_1, .int .i64 a0_2], .int .i64 a1] rfl (by (try simp only [List.map_toArray, List.map_cons, List.map_nil]); first | done | rfl | (simp only [List.length_drop, List.length_take]; rfl)) ?_; (with_reducible refine (panel_Order.calls kj5 a0_0 a0_1 a0_2 a1 t570 t571 t572 t573 _ A30.out).mono ?_); rintro e w36 ⟨rfl, hb⟩; refine ⟨_, rfl, ?_⟩; have n0_ := Aside0.mk (blk_below (g := gb557) (o := .cells #[.int .i64 a0_0, .int .i64 a0_1, .int .i64 a0_2] 23 (0, 0)) (by (with_reducible repeat (first | refine blk_drewN ?_ _ | refine blk_drew ?_ | refine blk_alloc ?_ _)); exact BK557.out) hb); have n1_ := Aside0.mk (blk_below (g := gb562) (o := .cells #[.int .i64 t558, .int .i64 t559, .int .i64 t560] 23 (0, 0)) (by (with_reducible repeat (first | refine blk_drewN ?_ _ | refine blk_drew ?_ | refine blk_alloc ?_ _)); exact BK562.out) hb); have n2_ := Aside0.mk (blk_below (g := gb567) (o := .cells #[.int .i64 t563, .int .i64 t564, .int .i64 t565] 23 (0, 0)) (by (with_reducible repeat (first | refine blk_drewN ?_ _ | refine blk_drew ?_ | refine blk_alloc ?_ _)); exact BK567.out) hb); have n3_ := Aside0.mk (below_step (by repeat (first | (with_reducible first | exact HB.out | apply below_alloc | apply pw_below_drewN | apply below_drew1 | refine below_set ?_ GE557.out | refine below_set ?_ GE562.out | refine below_set ?_ GE567.out) | exact HB.out)) hb); clear BK557; clear BK562; clear BK567; clear HB; have BK557 := n0_; have BK562 := n1_; have BK567 := n2_; have HB := n3_; clear n0_ n1_ n2_ n3_; (try clear hb); (try clear hb2); (try clear hk); (try clear hi); have hnb37 := NB562_567.out; have hnc37 := NB567_562.out; have hcz38_0 : w36.cell? ⟨gb562, 0, none⟩ = some (.int .i64 t558) := (blk_cell BK562.out 0).trans rfl; have hcz38_1 : w36.cell? ⟨gb562, 1, none⟩ = some (.int .i64 t559) := (blk_cell BK562.out 1).trans rfl; have hcz38_2 : w36.cell? ⟨gb562, 2, none⟩ = some (.int .i64 t560) := (blk_cell BK562.out 2).trans rfl; have hfz38_0 := blk_frozen BK562.out 0; have hfz38_1 := blk_frozen BK562.out 1; have hfz38_2 := blk_frozen BK562.out 2; have hcz39_0 : w36.cell? ⟨gb557, 0, none⟩ = some (.int .i64 a0_0) := (blk_cell BK557.out 0).trans rfl; have hcz39_1 : w36.cell? ⟨gb557, 1, none⟩ = some (.int .i64 a0_1) := (blk_cell BK557.out 1).trans rfl; have hcz39_2 : w36.cell? ⟨gb557, 2, none⟩ = some (.int .i64 a0_2) := (blk_cell BK557.out 2).trans rfl; have hfz39_0 := blk_frozen BK557.out 0; have hfz39_1 := blk_frozen BK557.out 1; have hfz39_2 := blk_frozen BK557.out 2) | ((with_reducible refine gate_callee (f := 33) rfl ?_); refine goesL_ (some 49) rfl rfl Try.func33 (by kernel_rfl) rfl #[.agg #[.int .i64 a0_0, .int .i64 a0_1, .int .i64 a0_2], .int .i64 a1] rfl (by (try simp only [List.map_toArray, List.map_cons, List.map_nil]); first | done | rfl | (simp only [List.length_drop, List.length_take]; rfl)) ?_; (with_reducible refine (tipstaffref16_Order.calls kj5 a0_0 a0_1 a0_2 a1 t574 t575 t576 t577 _ A31.out).mono ?_); rintro e w40 ⟨rfl, hb⟩; refine ⟨_, rfl, ?_⟩; have n0_ := Aside0.mk (blk_below (g := gb557) (o := .cells #[.int .i64 a0_0, .int .i64 a0_1, .int .i64 a0_2] 23 (0, 0)) (by (with_reducible repeat (first | refine blk_drewN ?_ _ | refine blk_drew ?_ | refine blk_alloc ?_ _)); refine blk_far ?_ NB557_562.out _; (with_reducible repeat (first | refine blk_drewN ?_ _ | refine blk_drew ?_ | refine blk_alloc ?_ _)); refine blk_far ?_ NB557_562.out _; (with_reducible repeat (first | refine blk_drewN ?_ _ | refine blk_drew ?_ | refine blk_alloc ?_ _)); refine blk_far ?_ NB557_562.out _; (with_reducible repeat (first | refine blk_drewN ?_ _ | refine blk_drew ?_ | refine blk_alloc ?_ _)); exact BK557.out) hb); have n1_ := Aside0.mk (blk_below (g := gb562) (o := .cells #[.int .i64 t570, .int .i64 t571, .int .i64 t572] 23 (0, 0)) (by (with_reducible repeat (first | refine blk_drewN ?_ _ | refine blk_drew ?_ | refine blk_alloc ?_ _)); refine blk_put (cs := #[.int .i64 t570, .int .i64 t571, .int .i64 t560]) ?_ 2 _ rfl; (with_reducible repeat (first | refine blk_drewN ?_ _ | refine blk_drew ?_ | refine blk_alloc ?_ _)); refine blk_put (cs := #[.int .i64 t570, .int .i64 t559, .int .i64 t560]) ?_ 1 _ rfl; (with_reducible repeat (first | refine blk_drewN ?_ _ | refine blk_drew ?_ | refine blk_alloc ?_ _)); refine blk_put (cs := #[.int .i64 t558, .int .i64 t559, .int .i64 t560]) ?_ 0 _ rfl; (with_reducible repeat (first | refine blk_drewN ?_ _ | refine blk_drew ?_ | refine blk_alloc ?_ _)); exact BK562.out) hb); have n2_ := Aside0.mk (blk_below (g := gb567) (o := .cells #[.int .i64 t563, .int .i64 t564, .int .i64 t565] 23 (0, 0)) (by (with_reducible repeat (first | refine blk_drewN ?_ _ | refine blk_drew ?_ | refine blk_alloc ?_ _)); refine blk_far ?_ NB567_562.out _; (with_reducible repeat (first | refine blk_drewN ?_ _ | refine blk_drew ?_ | refine blk_alloc ?_ _)); refine blk_far ?_ NB567_562.out _; (with_reducible repeat (first | refine blk_drewN ?_ _ | refine blk_drew ?_ | refine blk_alloc ?_ _)); refine blk_far ?_ NB567_562.out _; (with_reducible repeat (first | refine blk_drewN ?_ _ | refine blk_drew ?_ | refine blk_alloc ?_ _)); exact BK567.out) hb); have n3_ := Aside0.mk (below_step (by repeat (first | (with_reducible first | exact HB.out | apply below_alloc | apply pw_below_drewN | apply below_drew1 | refine below_set ?_ GE557.out | refine below_set ?_ GE562.out | refine below_set ?_ GE567.out) | exact HB.out)) hb); clear BK557; clear BK562; clear BK567; clear HB; have BK557 := n0_; have BK562 := n1_; have BK567 := n2_; have HB := n3_; clear n0_ n1_ n2_ n3_; (try clear hb); (try clear hb2); (try clear hk); (try clear hi); have hcz41_0 : w40.cell? ⟨gb567, 0, none⟩ = some (.int .i64 t563) := (blk_cell BK567.out 0).trans rfl; have hcz41_1 : w40.cell? ⟨gb567, 1, none⟩ = some (.int .i64 t564) := (blk_cell BK567.out 1).trans rfl; have hcz41_2 : w40.cell? ⟨gb567, 2, none⟩ = some (.int .i64 t565) := (blk_cell BK567.out 2).trans rfl; have hfz41_0 := blk_frozen BK567.out 0; have hfz41_1 := blk_frozen BK567.out 1; have hfz41_2 := blk_frozen BK567.out 2))
        (try simp only [Act.put, List.setIfInBounds_toArray, List.set_cons_zero, List.set_cons_succ])
        go_cut [59] (fun v59 wc => ∃ (kq : Nat) (x59_31 : Bool), v59 = .bool x59_31 ∧ Aside0 (tipstafflaw16_PanelSteps.j1 kq a2 x59_31 a0_0 a0_1 a0_2 = some r) ∧ Aside0 (kq ≤ kj5) ∧ Aside0 (wc.heap[gb557]? = some (.cells #[.int .i64 a0_0, .int .i64 a0_1, .int .i64 a0_2] 23 (0, 0))) ∧ Aside0 (wc.heap[gb562]? = some (.cells #[.int .i64 t570, .int .i64 t571, .int .i64 t572] 23 (0, 0))) ∧ Aside0 (wc.heap[gb567]? = some (.cells #[.int .i64 t574, .int .i64 t575, .int .i64 t576] 23 (0, 0))) ∧ Aside0 (Below w.heap.size w wc))
        case first =>
          have H := HC32.out
          clear HC32
          by_cases c42 : (!(t570 == t574) || (!(t571 == t575) || (!(t572 == t576)))) = true
          · rw [if_pos c42] at H
            have c42b0 : (!(t570 == t574) || (!(t571 == t575) || (!(t572 == t576)))) = true := c42
            clear c42
            (first | rw [c42b0] | (simp only [i64_w, i32_w]; rw [c42b0]) | skip)
            have H' := Aside0.mk H
            clear H
            have hnb43 := NB562_557.out
            have hnc43 := NB557_562.out
            have hnb44 := NB562_567.out
            have hnc44 := NB567_562.out
            have hcz45_0 : w40.cell? ⟨gb562, 0, none⟩ = some (.int .i64 t570) := (blk_cell BK562.out 0).trans rfl
            have hcz45_1 : w40.cell? ⟨gb562, 1, none⟩ = some (.int .i64 t571) := (blk_cell BK562.out 1).trans rfl
            have hcz45_2 : w40.cell? ⟨gb562, 2, none⟩ = some (.int .i64 t572) := (blk_cell BK562.out 2).trans rfl
            have hfz45_0 := blk_frozen BK562.out 0
            have hfz45_1 := blk_frozen BK562.out 1
            have hfz45_2 := blk_frozen BK562.out 2
            have hnb46 := NB567_557.out
            have hnc46 := NB557_567.out
            have hcz47_0 : w40.cell? ⟨gb567, 0, none⟩ = some (.int .i64 t563) := (blk_cell BK567.out 0).trans rfl
            have hcz47_1 : w40.cell? ⟨gb567, 1, none⟩ = some (.int .i64 t564) := (blk_cell BK567.out 1).trans rfl
            have hcz47_2 : w40.cell? ⟨gb567, 2, none⟩ = some (.int .i64 t565) := (blk_cell BK567.out 2).trans rfl
            have hfz47_0 := blk_frozen BK567.out 0
            have hfz47_1 := blk_frozen BK567.out 1
            have hfz47_2 := blk_frozen BK567.out 2
            go_wp2
            go_meet
            case rel => exact ⟨_, (true), (by first | rfl | (simp; done) | (simp [*]; done)), H', ⟨by have := HJ5.out; first | omega | exact Nat.le_refl _⟩, ⟨by (with_reducible repeat (first | refine blk_drewN ?_ _ | refine blk_drew ?_ | refine blk_alloc ?_ _)); refine blk_far ?_ NB557_567.out _; (with_reducible repeat (first | refine blk_drewN ?_ _ | refine blk_drew ?_ | refine blk_alloc ?_ _)); refine blk_far ?_ NB557_567.out _; (with_reducible repeat (first | refine blk_drewN ?_ _ | refine blk_drew ?_ | refine blk_alloc ?_ _)); refine blk_far ?_ NB557_567.out _; (with_reducible repeat (first | refine blk_drewN ?_ _ | refine blk_drew ?_ | refine blk_alloc ?_ _)); exact BK557.out⟩, ⟨by (with_reducible repeat (first | refine blk_drewN ?_ _ | refine blk_drew ?_ | refine blk_alloc ?_ _)); refine blk_far ?_ NB562_567.out _; (with_reducible repeat (first | refine blk_drewN ?_ _ | refine blk_drew ?_ | refine blk_alloc ?_ _)); refine blk_far ?_ NB562_567.out _; (with_reducible repeat (first | refine blk_drewN ?_ _ | refine blk_drew ?_ | refine blk_alloc ?_ _)); refine blk_far ?_ NB562_567.out _; (with_reducible repeat (first | refine blk_drewN ?_ _ | refine blk_drew ?_ | refine blk_alloc ?_ _)); exact BK562.out⟩, ⟨by (with_reducible repeat (first | refine blk_drewN ?_ _ | refine blk_drew ?_ | refine blk_alloc ?_ _)); refine blk_put (cs := #[.int .i64 t574, .int .i64 t575, .int .i64 t565]) ?_ 2 _ rfl; (with_reducible repeat (first | refine blk_drewN ?_ _ | refine blk_drew ?_ | refine blk_alloc ?_ _)); refine blk_put (cs := #[.int .i64 t574, .int .i64 t564, .int .i64 t565]) ?_ 1 _ rfl; (with_reducible repeat (first | refine blk_drewN ?_ _ | refine blk_drew ?_ | refine blk_alloc ?_ _)); refine blk_put (cs := #[.int .i64 t563, .int .i64 t564, .int .i64 t565]) ?_ 0 _ rfl; (with_reducible repeat (first | refine blk_drewN ?_ _ | refine blk_drew ?_ | refine blk_alloc ?_ _)); exact BK567.out⟩, ⟨by repeat (first | (with_reducible first | exact HB.out | apply below_alloc | apply pw_below_drewN | apply below_drew1 | refine below_set ?_ GE557.out | refine below_set ?_ GE562.out | refine below_set ?_ GE567.out) | exact HB.out)⟩⟩
          · rw [if_neg c42] at H
            have c42b0 : (!(t570 == t574) || (!(t571 == t575) || (!(t572 == t576)))) = false := by simpa using c42
            clear c42
            (first | rw [c42b0] | (simp only [i64_w, i32_w]; rw [c42b0]) | skip)
            have H' := Aside0.mk H
            clear H
            have hnb48 := NB562_557.out
            have hnc48 := NB557_562.out
            have hnb49 := NB562_567.out
            have hnc49 := NB567_562.out
            have hcz50_0 : w40.cell? ⟨gb562, 0, none⟩ = some (.int .i64 t570) := (blk_cell BK562.out 0).trans rfl
            have hcz50_1 : w40.cell? ⟨gb562, 1, none⟩ = some (.int .i64 t571) := (blk_cell BK562.out 1).trans rfl
            have hcz50_2 : w40.cell? ⟨gb562, 2, none⟩ = some (.int .i64 t572) := (blk_cell BK562.out 2).trans rfl
            have hfz50_0 := blk_frozen BK562.out 0
            have hfz50_1 := blk_frozen BK562.out 1
            have hfz50_2 := blk_frozen BK562.out 2
            have hnb51 := NB567_557.out
            have hnc51 := NB557_567.out
            have hcz52_0 : w40.cell? ⟨gb567, 0, none⟩ = some (.int .i64 t563) := (blk_cell BK567.out 0).trans rfl
            have hcz52_1 : w40.cell? ⟨gb567, 1, none⟩ = some (.int .i64 t564) := (blk_cell BK567.out 1).trans rfl
            have hcz52_2 : w40.cell? ⟨gb567, 2, none⟩ = some (.int .i64 t565) := (blk_cell BK567.out 2).trans rfl
            have hfz52_0 := blk_frozen BK567.out 0
            have hfz52_1 := blk_frozen BK567.out 1
            have hfz52_2 := blk_frozen BK567.out 2
            go_wp2
            go_meet
            case rel => exact ⟨_, ((t573 != t577)), (by first | rfl | (simp; done) | (simp [*]; done)), H', ⟨by have := HJ5.out; first | omega | exact Nat.le_refl _⟩, ⟨by (with_reducible repeat (first | refine blk_drewN ?_ _ | refine blk_drew ?_ | refine blk_alloc ?_ _)); refine blk_far ?_ NB557_567.out _; (with_reducible repeat (first | refine blk_drewN ?_ _ | refine blk_drew ?_ | refine blk_alloc ?_ _)); refine blk_far ?_ NB557_567.out _; (with_reducible repeat (first | refine blk_drewN ?_ _ | refine blk_drew ?_ | refine blk_alloc ?_ _)); refine blk_far ?_ NB557_567.out _; (with_reducible repeat (first | refine blk_drewN ?_ _ | refine blk_drew ?_ | refine blk_alloc ?_ _)); exact BK557.out⟩, ⟨by (with_reducible repeat (first | refine blk_drewN ?_ _ | refine blk_drew ?_ | refine blk_alloc ?_ _)); refine blk_far ?_ NB562_567.out _; (with_reducible repeat (first | refine blk_drewN ?_ _ | refine blk_drew ?_ | refine blk_alloc ?_ _)); refine blk_far ?_ NB562_567.out _; (with_reducible repeat (first | refine blk_drewN ?_ _ | refine blk_drew ?_ | refine blk_alloc ?_ _)); refine blk_far ?_ NB562_567.out _; (with_reducible repeat (first | refine blk_drewN ?_ _ | refine blk_drew ?_ | refine blk_alloc ?_ _)); exact BK562.out⟩, ⟨by (with_reducible repeat (first | refine blk_drewN ?_ _ | refine blk_drew ?_ | refine blk_alloc ?_ _)); refine blk_put (cs := #[.int .i64 t574, .int .i64 t575, .int .i64 t565]) ?_ 2 _ rfl; (with_reducible repeat (first | refine blk_drewN ?_ _ | refine blk_drew ?_ | refine blk_alloc ?_ _)); refine blk_put (cs := #[.int .i64 t574, .int .i64 t564, .int .i64 t565]) ?_ 1 _ rfl; (with_reducible repeat (first | refine blk_drewN ?_ _ | refine blk_drew ?_ | refine blk_alloc ?_ _)); refine blk_put (cs := #[.int .i64 t563, .int .i64 t564, .int .i64 t565]) ?_ 0 _ rfl; (with_reducible repeat (first | refine blk_drewN ?_ _ | refine blk_drew ?_ | refine blk_alloc ?_ _)); exact BK567.out⟩, ⟨by repeat (first | (with_reducible first | exact HB.out | apply below_alloc | apply pw_below_drewN | apply below_drew1 | refine below_set ?_ GE557.out | refine below_set ?_ GE562.out | refine below_set ?_ GE567.out) | exact HB.out)⟩⟩
        case rest =>
          clear HC32
          try clear c1
          try clear c2
          try clear p2
          try clear c3
          try clear c4
          try clear c5
          try clear c8
          try clear c10
          try clear c14
          try clear c15
          try clear c17
          try clear c17b0
          try clear c18
          try clear c20
          try clear c20b0
          try clear c20b1
          try clear c24
          try clear c29
          try clear c32
          try clear c33
          try clear c34
          try clear c37
          try clear c42
          try clear c42b0
          try clear c43
          try clear c44
          try clear c46
          try clear c48
          try clear c49
          try clear c51
          try clear hcz11_0
          try clear hcz11_1
          try clear hcz11_2
          try clear hcz16_0
          try clear hcz16_1
          try clear hcz16_2
          try clear hcz35_0
          try clear hcz35_1
          try clear hcz35_2
          try clear hcz38_0
          try clear hcz38_1
          try clear hcz38_2
          try clear hcz39_0
          try clear hcz39_1
          try clear hcz39_2
          try clear hcz41_0
          try clear hcz41_1
          try clear hcz41_2
          try clear hcz45_0
          try clear hcz45_1
          try clear hcz45_2
          try clear hcz47_0
          try clear hcz47_1
          try clear hcz47_2
          try clear hcz50_0
          try clear hcz50_1
          try clear hcz50_2
          try clear hcz52_0
          try clear hcz52_1
          try clear hcz52_2
          try clear hfz11_0
          try clear hfz11_1
          try clear hfz11_2
          try clear hfz16_0
          try clear hfz16_1
          try clear hfz16_2
          try clear hfz35_0
          try clear hfz35_1
          try clear hfz35_2
          try clear hfz38_0
          try clear hfz38_1
          try clear hfz38_2
          try clear hfz39_0
          try clear hfz39_1
          try clear hfz39_2
          try clear hfz41_0
          try clear hfz41_1
          try clear hfz41_2
          try clear hfz45_0
          try clear hfz45_1
          try clear hfz45_2
          try clear hfz47_0
          try clear hfz47_1
          try clear hfz47_2
          try clear hfz50_0
          try clear hfz50_1
          try clear hfz50_2
          try clear hfz52_0
          try clear hfz52_1
          try clear hfz52_2
          try clear p2
          obtain ⟨kq, x59_31, rfl, HA, HJ31, BK557, BK562, BK567, HB⟩ := hcut
          cases kq with
          | zero => exact absurd HA.out (by simp [tipstafflaw16_PanelSteps.j1])
          | succ kj31 =>
            have H := HA.out
            clear HA
            simp only [tipstafflaw16_PanelSteps.j1] at H
            by_cases c53 : x59_31 = true
            · subst c53
              have H1 : (none) = some r := by rw [if_pos rfl] at H; exact H
              clear H
              have H := H1
              clear H1
              exact absurd H (by simp)
            · replace c53 := Bool.eq_false_iff.mpr c53
              subst c53
              have H1 := H
              rw [if_neg (show ¬ (false = true) by decide)] at H1
              clear H
              have H := H1
              clear H1
              replace H := Option.bind_eq_some_iff.mp H
              obtain ⟨⟨t578, t579, t580, t581, t582⟩, A540, H⟩ := H
              replace H : ((tipstaffref16_Step.f kj31 a0_0 a0_1 a0_2).bind fun bt583 => (if (!(t578 == bt583.1) || (!(t579 == bt583.2.1) || (!(t580 == bt583.2.2.1)))) = true then (tipstafflaw16_PanelSteps.j2 kj31 a2 true a0_0 a0_1 a0_2) else (if t581 = bt583.2.2.2.1 then (tipstafflaw16_PanelSteps.j2 kj31 a2 (t582 != bt583.2.2.2.2) a0_0 a0_1 a0_2) else (tipstafflaw16_PanelSteps.j2 kj31 a2 true a0_0 a0_1 a0_2)))) = some r := H
              have A54 := Aside0.mk A540
              clear A540
              replace H := Option.bind_eq_some_iff.mp H
              obtain ⟨⟨t583, t584, t585, t586, t587⟩, A550, H⟩ := H
              replace H : (if (!(t578 == t583) || (!(t579 == t584) || (!(t580 == t585)))) = true then (tipstafflaw16_PanelSteps.j2 kj31 a2 true a0_0 a0_1 a0_2) else (if t581 = t586 then (tipstafflaw16_PanelSteps.j2 kj31 a2 (t582 != t587) a0_0 a0_1 a0_2) else (tipstafflaw16_PanelSteps.j2 kj31 a2 true a0_0 a0_1 a0_2))) = some r := H
              have A55 := Aside0.mk A550
              clear A550
              have HC56 := Aside0.mk H
              clear H
              have hnb57 := NB557_562.out
              have hnc57 := NB562_557.out
              have hnb58 := NB557_567.out
              have hnc58 := NB567_557.out
              have hcz59_0 : wc.cell? ⟨gb557, 0, none⟩ = some (.int .i64 a0_0) := (blk_cell BK557.out 0).trans rfl
              have hcz59_1 : wc.cell? ⟨gb557, 1, none⟩ = some (.int .i64 a0_1) := (blk_cell BK557.out 1).trans rfl
              have hcz59_2 : wc.cell? ⟨gb557, 2, none⟩ = some (.int .i64 a0_2) := (blk_cell BK557.out 2).trans rfl
              have hfz59_0 := blk_frozen BK557.out 0
              have hfz59_1 := blk_frozen BK557.out 1
              have hfz59_2 := blk_frozen BK557.out 2
              go_upto_region 11 with (first | ((with_reducible refine gate_callee (f := 28) rfl ?_); refine goesL_ (some 62) rfl rfl Try.func28 (by kernel_rfl) rfl #[.agg #[.int .i64 a0_0, .int .i64 a0_1, .int .i64 a0_2]] rfl (by (try simp only [List.map_toArray, List.map_cons, List.map_nil]); first | done | rfl | (simp only [List.length_drop, List.length_take]; rfl)) ?_; (with_reducible refine (panel_Step.calls kj31 a0_0 a0_1 a0_2 t578 t579 t580 t581 t582 _ A54.out).mono ?_); rintro e w60 ⟨rfl, hb⟩; refine ⟨_, rfl, ?_⟩; have n0_ := Aside0.mk (blk_below (g := gb557) (o := .cells #[.int .i64 a0_0, .int .i64 a0_1, .int .i64 a0_2] 23 (0, 0)) (by (with_reducible repeat (first | refine blk_drewN ?_ _ | refine blk_drew ?_ | refine blk_alloc ?_ _)); exact BK557.out) hb); have n1_ := Aside0.mk (blk_below (g := gb562) (o := .cells #[.int .i64 t570, .int .i64 t571, .int .i64 t572] 23 (0, 0)) (by (with_reducible repeat (first | refine blk_drewN ?_ _ | refine blk_drew ?_ | refine blk_alloc ?_ _)); exact BK562.out) hb); have n2_ := Aside0.mk (blk_below (g := gb567) (o := .cells #[.int .i64 t574, .int .i64 t575, .int .i64 t576] 23 (0, 0)) (by (with_reducible repeat (first | refine blk_drewN ?_ _ | refine blk_drew ?_ | refine blk_alloc ?_ _)); exact BK567.out) hb); have n3_ := Aside0.mk (below_step (by repeat (first | (with_reducible first | exact HB.out | apply below_alloc | apply pw_below_drewN | apply below_drew1 | refine below_set ?_ GE557.out | refine below_set ?_ GE562.out | refine below_set ?_ GE567.out) | exact HB.out)) hb); clear BK557; clear BK562; clear BK567; clear HB; have BK557 := n0_; have BK562 := n1_; have BK567 := n2_; have HB := n3_; clear n0_ n1_ n2_ n3_; (try clear hb); (try clear hb2); (try clear hk); (try clear hi); have hnb61 := NB562_567.out; have hnc61 := NB567_562.out; have hcz62_0 : w60.cell? ⟨gb562, 0, none⟩ = some (.int .i64 t570) := (blk_cell BK562.out 0).trans rfl; have hcz62_1 : w60.cell? ⟨gb562, 1, none⟩ = some (.int .i64 t571) := (blk_cell BK562.out 1).trans rfl; have hcz62_2 : w60.cell? ⟨gb562, 2, none⟩ = some (.int .i64 t572) := (blk_cell BK562.out 2).trans rfl; have hfz62_0 := blk_frozen BK562.out 0; have hfz62_1 := blk_frozen BK562.out 1; have hfz62_2 := blk_frozen BK562.out 2; have hcz63_0 : w60.cell? ⟨gb557, 0, none⟩ = some (.int .i64 a0_0) := (blk_cell BK557.out 0).trans rfl; have hcz63_1 : w60.cell? ⟨gb557, 1, none⟩ = some (.int .i64 a0_1) := (blk_cell BK557.out 1).trans rfl; have hcz63_2 : w60.cell? ⟨gb557, 2, none⟩ = some (.int .i64 a0_2) := (blk_cell BK557.out 2).trans rfl; have hfz63_0 := blk_frozen BK557.out 0; have hfz63_1 := blk_frozen BK557.out 1; have hfz63_2 := blk_frozen BK557.out 2) | ((with_reducible refine gate_callee (f := 34) rfl ?_); refine goesL_ (some 68) rfl rfl Try.func34 (by kernel_rfl) rfl #[.agg #[.int .i64 a0_0, .int .i64 a0_1, .int .i64 a0_2]] rfl (by (try simp only [List.map_toArray, List.map_cons, List.map_nil]); first | done | rfl | (simp only [List.length_drop, List.length_take]; rfl)) ?_; (with_reducible refine (tipstaffref16_Step.calls kj31 a0_0 a0_1 a0_2 t583 t584 t585 t586 t587 _ A55.out).mono ?_); rintro e w64 ⟨rfl, hb⟩; refine ⟨_, rfl, ?_⟩; have n0_ := Aside0.mk (blk_below (g := gb557) (o := .cells #[.int .i64 a0_0, .int .i64 a0_1, .int .i64 a0_2] 23 (0, 0)) (by (with_reducible repeat (first | refine blk_drewN ?_ _ | refine blk_drew ?_ | refine blk_alloc ?_ _)); refine blk_far ?_ NB557_562.out _; (with_reducible repeat (first | refine blk_drewN ?_ _ | refine blk_drew ?_ | refine blk_alloc ?_ _)); refine blk_far ?_ NB557_562.out _; (with_reducible repeat (first | refine blk_drewN ?_ _ | refine blk_drew ?_ | refine blk_alloc ?_ _)); refine blk_far ?_ NB557_562.out _; (with_reducible repeat (first | refine blk_drewN ?_ _ | refine blk_drew ?_ | refine blk_alloc ?_ _)); exact BK557.out) hb); have n1_ := Aside0.mk (blk_below (g := gb562) (o := .cells #[.int .i64 t578, .int .i64 t579, .int .i64 t580] 23 (0, 0)) (by (with_reducible repeat (first | refine blk_drewN ?_ _ | refine blk_drew ?_ | refine blk_alloc ?_ _)); refine blk_put (cs := #[.int .i64 t578, .int .i64 t579, .int .i64 t572]) ?_ 2 _ rfl; (with_reducible repeat (first | refine blk_drewN ?_ _ | refine blk_drew ?_ | refine blk_alloc ?_ _)); refine blk_put (cs := #[.int .i64 t578, .int .i64 t571, .int .i64 t572]) ?_ 1 _ rfl; (with_reducible repeat (first | refine blk_drewN ?_ _ | refine blk_drew ?_ | refine blk_alloc ?_ _)); refine blk_put (cs := #[.int .i64 t570, .int .i64 t571, .int .i64 t572]) ?_ 0 _ rfl; (with_reducible repeat (first | refine blk_drewN ?_ _ | refine blk_drew ?_ | refine blk_alloc ?_ _)); exact BK562.out) hb); have n2_ := Aside0.mk (blk_below (g := gb567) (o := .cells #[.int .i64 t574, .int .i64 t575, .int .i64 t576] 23 (0, 0)) (by (with_reducible repeat (first | refine blk_drewN ?_ _ | refine blk_drew ?_ | refine blk_alloc ?_ _)); refine blk_far ?_ NB567_562.out _; (with_reducible repeat (first | refine blk_drewN ?_ _ | refine blk_drew ?_ | refine blk_alloc ?_ _)); refine blk_far ?_ NB567_562.out _; (with_reducible repeat (first | refine blk_drewN ?_ _ | refine blk_drew ?_ | refine blk_alloc ?_ _)); refine blk_far ?_ NB567_562.out _; (with_reducible repeat (first | refine blk_drewN ?_ _ | refine blk_drew ?_ | refine blk_alloc ?_ _)); exact BK567.out) hb); have n3_ := Aside0.mk (below_step (by repeat (first | (with_reducible first | exact HB.out | apply below_alloc | apply pw_below_drewN | apply below_drew1 | refine below_set ?_ GE557.out | refine below_set ?_ GE562.out | refine below_set ?_ GE567.out) | exact HB.out)) hb); clear BK557; clear BK562; clear BK567; clear HB; have BK557 := n0_; have BK562 := n1_; have BK567 := n2_; have HB := n3_; clear n0_ n1_ n2_ n3_; (try clear hb); (try clear hb2); (try clear hk); (try clear hi); have hcz65_0 : w64.cell? ⟨gb567, 0, none⟩ = some (.int .i64 t574) := (blk_cell BK567.out 0).trans rfl; have hcz65_1 : w64.cell? ⟨gb567, 1, none⟩ = some (.int .i64 t575) := (blk_cell BK567.out 1).trans rfl; have hcz65_2 : w64.cell? ⟨gb567, 2, none⟩ = some (.int .i64 t576) := (blk_cell BK567.out 2).trans rfl; have hfz65_0 := blk_frozen BK567.out 0; have hfz65_1 := blk_frozen BK567.out 1; have hfz65_2 := blk_frozen BK567.out 2))
              (try simp only [Act.put, List.setIfInBounds_toArray, List.set_cons_zero, List.set_cons_succ])
              go_cut [84] (fun v84 wc => ∃ (kq : Nat) (x84_55 : Bool), v84 = .bool x84_55 ∧ Aside0 (tipstafflaw16_PanelSteps.j2 kq a2 x84_55 a0_0 a0_1 a0_2 = some r) ∧ Aside0 (kq ≤ kj31) ∧ Aside0 (wc.heap[gb557]? = some (.cells #[.int .i64 a0_0, .int .i64 a0_1, .int .i64 a0_2] 23 (0, 0))) ∧ Aside0 (wc.heap[gb562]? = some (.cells #[.int .i64 t578, .int .i64 t579, .int .i64 t580] 23 (0, 0))) ∧ Aside0 (wc.heap[gb567]? = some (.cells #[.int .i64 t583, .int .i64 t584, .int .i64 t585] 23 (0, 0))) ∧ Aside0 (Below w.heap.size w wc))
              case first =>
                have H := HC56.out
                clear HC56
                by_cases c66 : (!(t578 == t583) || (!(t579 == t584) || (!(t580 == t585)))) = true
                · rw [if_pos c66] at H
                  have c66b0 : (!(t578 == t583) || (!(t579 == t584) || (!(t580 == t585)))) = true := c66
                  clear c66
                  (first | rw [c66b0] | (simp only [i64_w, i32_w]; rw [c66b0]) | skip)
                  have H' := Aside0.mk H
                  clear H
                  have hnb67 := NB562_557.out
                  have hnc67 := NB557_562.out
                  have hnb68 := NB562_567.out
                  have hnc68 := NB567_562.out
                  have hcz69_0 : w64.cell? ⟨gb562, 0, none⟩ = some (.int .i64 t578) := (blk_cell BK562.out 0).trans rfl
                  have hcz69_1 : w64.cell? ⟨gb562, 1, none⟩ = some (.int .i64 t579) := (blk_cell BK562.out 1).trans rfl
                  have hcz69_2 : w64.cell? ⟨gb562, 2, none⟩ = some (.int .i64 t580) := (blk_cell BK562.out 2).trans rfl
                  have hfz69_0 := blk_frozen BK562.out 0
                  have hfz69_1 := blk_frozen BK562.out 1
                  have hfz69_2 := blk_frozen BK562.out 2
                  have hnb70 := NB567_557.out
                  have hnc70 := NB557_567.out
                  have hcz71_0 : w64.cell? ⟨gb567, 0, none⟩ = some (.int .i64 t574) := (blk_cell BK567.out 0).trans rfl
                  have hcz71_1 : w64.cell? ⟨gb567, 1, none⟩ = some (.int .i64 t575) := (blk_cell BK567.out 1).trans rfl
                  have hcz71_2 : w64.cell? ⟨gb567, 2, none⟩ = some (.int .i64 t576) := (blk_cell BK567.out 2).trans rfl
                  have hfz71_0 := blk_frozen BK567.out 0
                  have hfz71_1 := blk_frozen BK567.out 1
                  have hfz71_2 := blk_frozen BK567.out 2
                  go_wp2
                  go_meet
                  case rel => exact ⟨_, (true), (by first | rfl | (simp; done) | (simp [*]; done)), H', ⟨by have := HJ5.out; have := HJ31.out; first | omega | exact Nat.le_refl _⟩, ⟨by (with_reducible repeat (first | refine blk_drewN ?_ _ | refine blk_drew ?_ | refine blk_alloc ?_ _)); refine blk_far ?_ NB557_567.out _; (with_reducible repeat (first | refine blk_drewN ?_ _ | refine blk_drew ?_ | refine blk_alloc ?_ _)); refine blk_far ?_ NB557_567.out _; (with_reducible repeat (first | refine blk_drewN ?_ _ | refine blk_drew ?_ | refine blk_alloc ?_ _)); refine blk_far ?_ NB557_567.out _; (with_reducible repeat (first | refine blk_drewN ?_ _ | refine blk_drew ?_ | refine blk_alloc ?_ _)); exact BK557.out⟩, ⟨by (with_reducible repeat (first | refine blk_drewN ?_ _ | refine blk_drew ?_ | refine blk_alloc ?_ _)); refine blk_far ?_ NB562_567.out _; (with_reducible repeat (first | refine blk_drewN ?_ _ | refine blk_drew ?_ | refine blk_alloc ?_ _)); refine blk_far ?_ NB562_567.out _; (with_reducible repeat (first | refine blk_drewN ?_ _ | refine blk_drew ?_ | refine blk_alloc ?_ _)); refine blk_far ?_ NB562_567.out _; (with_reducible repeat (first | refine blk_drewN ?_ _ | refine blk_drew ?_ | refine blk_alloc ?_ _)); exact BK562.out⟩, ⟨by (with_reducible repeat (first | refine blk_drewN ?_ _ | refine blk_drew ?_ | refine blk_alloc ?_ _)); refine blk_put (cs := #[.int .i64 t583, .int .i64 t584, .int .i64 t576]) ?_ 2 _ rfl; (with_reducible repeat (first | refine blk_drewN ?_ _ | refine blk_drew ?_ | refine blk_alloc ?_ _)); refine blk_put (cs := #[.int .i64 t583, .int .i64 t575, .int .i64 t576]) ?_ 1 _ rfl; (with_reducible repeat (first | refine blk_drewN ?_ _ | refine blk_drew ?_ | refine blk_alloc ?_ _)); refine blk_put (cs := #[.int .i64 t574, .int .i64 t575, .int .i64 t576]) ?_ 0 _ rfl; (with_reducible repeat (first | refine blk_drewN ?_ _ | refine blk_drew ?_ | refine blk_alloc ?_ _)); exact BK567.out⟩, ⟨by repeat (first | (with_reducible first | exact HB.out | apply below_alloc | apply pw_below_drewN | apply below_drew1 | refine below_set ?_ GE557.out | refine below_set ?_ GE562.out | refine below_set ?_ GE567.out) | exact HB.out)⟩⟩
                · rw [if_neg c66] at H
                  have c66b0 : (!(t578 == t583) || (!(t579 == t584) || (!(t580 == t585)))) = false := by simpa using c66
                  clear c66
                  (first | rw [c66b0] | (simp only [i64_w, i32_w]; rw [c66b0]) | skip)
                  by_cases c72 : t581 = t586
                  · rw [if_pos c72] at H
                    have c72b0 : (t581 == t586) = true := beq_iff_eq.mpr c72
                    have c72b1 : (t581 != t586) = false := bne_eq_false_iff_eq.mpr c72
                    clear c72
                    have H' := Aside0.mk H
                    clear H
                    have hnb73 := NB562_557.out
                    have hnc73 := NB557_562.out
                    have hnb74 := NB562_567.out
                    have hnc74 := NB567_562.out
                    have hcz75_0 : w64.cell? ⟨gb562, 0, none⟩ = some (.int .i64 t578) := (blk_cell BK562.out 0).trans rfl
                    have hcz75_1 : w64.cell? ⟨gb562, 1, none⟩ = some (.int .i64 t579) := (blk_cell BK562.out 1).trans rfl
                    have hcz75_2 : w64.cell? ⟨gb562, 2, none⟩ = some (.int .i64 t580) := (blk_cell BK562.out 2).trans rfl
                    have hfz75_0 := blk_frozen BK562.out 0
                    have hfz75_1 := blk_frozen BK562.out 1
                    have hfz75_2 := blk_frozen BK562.out 2
                    have hnb76 := NB567_557.out
                    have hnc76 := NB557_567.out
                    have hcz77_0 : w64.cell? ⟨gb567, 0, none⟩ = some (.int .i64 t574) := (blk_cell BK567.out 0).trans rfl
                    have hcz77_1 : w64.cell? ⟨gb567, 1, none⟩ = some (.int .i64 t575) := (blk_cell BK567.out 1).trans rfl
                    have hcz77_2 : w64.cell? ⟨gb567, 2, none⟩ = some (.int .i64 t576) := (blk_cell BK567.out 2).trans rfl
                    have hfz77_0 := blk_frozen BK567.out 0
                    have hfz77_1 := blk_frozen BK567.out 1
                    have hfz77_2 := blk_frozen BK567.out 2
                    go_wp2
                    go_meet
                    case rel => exact ⟨_, ((t582 != t587)), (by first | rfl | (simp; done) | (simp [*]; done)), H', ⟨by have := HJ5.out; have := HJ31.out; first | omega | exact Nat.le_refl _⟩, ⟨by (with_reducible repeat (first | refine blk_drewN ?_ _ | refine blk_drew ?_ | refine blk_alloc ?_ _)); refine blk_far ?_ NB557_567.out _; (with_reducible repeat (first | refine blk_drewN ?_ _ | refine blk_drew ?_ | refine blk_alloc ?_ _)); refine blk_far ?_ NB557_567.out _; (with_reducible repeat (first | refine blk_drewN ?_ _ | refine blk_drew ?_ | refine blk_alloc ?_ _)); refine blk_far ?_ NB557_567.out _; (with_reducible repeat (first | refine blk_drewN ?_ _ | refine blk_drew ?_ | refine blk_alloc ?_ _)); exact BK557.out⟩, ⟨by (with_reducible repeat (first | refine blk_drewN ?_ _ | refine blk_drew ?_ | refine blk_alloc ?_ _)); refine blk_far ?_ NB562_567.out _; (with_reducible repeat (first | refine blk_drewN ?_ _ | refine blk_drew ?_ | refine blk_alloc ?_ _)); refine blk_far ?_ NB562_567.out _; (with_reducible repeat (first | refine blk_drewN ?_ _ | refine blk_drew ?_ | refine blk_alloc ?_ _)); refine blk_far ?_ NB562_567.out _; (with_reducible repeat (first | refine blk_drewN ?_ _ | refine blk_drew ?_ | refine blk_alloc ?_ _)); exact BK562.out⟩, ⟨by (with_reducible repeat (first | refine blk_drewN ?_ _ | refine blk_drew ?_ | refine blk_alloc ?_ _)); refine blk_put (cs := #[.int .i64 t583, .int .i64 t584, .int .i64 t576]) ?_ 2 _ rfl; (with_reducible repeat (first | refine blk_drewN ?_ _ | refine blk_drew ?_ | refine blk_alloc ?_ _)); refine blk_put (cs := #[.int .i64 t583, .int .i64 t575, .int .i64 t576]) ?_ 1 _ rfl; (with_reducible repeat (first | refine blk_drewN ?_ _ | refine blk_drew ?_ | refine blk_alloc ?_ _)); refine blk_put (cs := #[.int .i64 t574, .int .i64 t575, .int .i64 t576]) ?_ 0 _ rfl; (with_reducible repeat (first | refine blk_drewN ?_ _ | refine blk_drew ?_ | refine blk_alloc ?_ _)); exact BK567.out⟩, ⟨by repeat (first | (with_reducible first | exact HB.out | apply below_alloc | apply pw_below_drewN | apply below_drew1 | refine below_set ?_ GE557.out | refine below_set ?_ GE562.out | refine below_set ?_ GE567.out) | exact HB.out)⟩⟩
                  · rw [if_neg c72] at H
                    have c72b0 : (t581 == t586) = false := beq_eq_false_iff_ne.mpr c72
                    have c72b1 : (t581 != t586) = true := bne_iff_ne.mpr c72
                    have H' := Aside0.mk H
                    clear H
                    have hnb78 := NB562_557.out
                    have hnc78 := NB557_562.out
                    have hnb79 := NB562_567.out
                    have hnc79 := NB567_562.out
                    have hcz80_0 : w64.cell? ⟨gb562, 0, none⟩ = some (.int .i64 t578) := (blk_cell BK562.out 0).trans rfl
                    have hcz80_1 : w64.cell? ⟨gb562, 1, none⟩ = some (.int .i64 t579) := (blk_cell BK562.out 1).trans rfl
                    have hcz80_2 : w64.cell? ⟨gb562, 2, none⟩ = some (.int .i64 t580) := (blk_cell BK562.out 2).trans rfl
                    have hfz80_0 := blk_frozen BK562.out 0
                    have hfz80_1 := blk_frozen BK562.out 1
                    have hfz80_2 := blk_frozen BK562.out 2
                    have hnb81 := NB567_557.out
                    have hnc81 := NB557_567.out
                    have hcz82_0 : w64.cell? ⟨gb567, 0, none⟩ = some (.int .i64 t574) := (blk_cell BK567.out 0).trans rfl
                    have hcz82_1 : w64.cell? ⟨gb567, 1, none⟩ = some (.int .i64 t575) := (blk_cell BK567.out 1).trans rfl
                    have hcz82_2 : w64.cell? ⟨gb567, 2, none⟩ = some (.int .i64 t576) := (blk_cell BK567.out 2).trans rfl
                    have hfz82_0 := blk_frozen BK567.out 0
                    have hfz82_1 := blk_frozen BK567.out 1
                    have hfz82_2 := blk_frozen BK567.out 2
                    go_wp2
                    go_meet
                    case rel => exact ⟨_, (true), (by first | rfl | (simp; done) | (simp [*]; done)), H', ⟨by have := HJ5.out; have := HJ31.out; first | omega | exact Nat.le_refl _⟩, ⟨by (with_reducible repeat (first | refine blk_drewN ?_ _ | refine blk_drew ?_ | refine blk_alloc ?_ _)); refine blk_far ?_ NB557_567.out _; (with_reducible repeat (first | refine blk_drewN ?_ _ | refine blk_drew ?_ | refine blk_alloc ?_ _)); refine blk_far ?_ NB557_567.out _; (with_reducible repeat (first | refine blk_drewN ?_ _ | refine blk_drew ?_ | refine blk_alloc ?_ _)); refine blk_far ?_ NB557_567.out _; (with_reducible repeat (first | refine blk_drewN ?_ _ | refine blk_drew ?_ | refine blk_alloc ?_ _)); exact BK557.out⟩, ⟨by (with_reducible repeat (first | refine blk_drewN ?_ _ | refine blk_drew ?_ | refine blk_alloc ?_ _)); refine blk_far ?_ NB562_567.out _; (with_reducible repeat (first | refine blk_drewN ?_ _ | refine blk_drew ?_ | refine blk_alloc ?_ _)); refine blk_far ?_ NB562_567.out _; (with_reducible repeat (first | refine blk_drewN ?_ _ | refine blk_drew ?_ | refine blk_alloc ?_ _)); refine blk_far ?_ NB562_567.out _; (with_reducible repeat (first | refine blk_drewN ?_ _ | refine blk_drew ?_ | refine blk_alloc ?_ _)); exact BK562.out⟩, ⟨by (with_reducible repeat (first | refine blk_drewN ?_ _ | refine blk_drew ?_ | refine blk_alloc ?_ _)); refine blk_put (cs := #[.int .i64 t583, .int .i64 t584, .int .i64 t576]) ?_ 2 _ rfl; (with_reducible repeat (first | refine blk_drewN ?_ _ | refine blk_drew ?_ | refine blk_alloc ?_ _)); refine blk_put (cs := #[.int .i64 t583, .int .i64 t575, .int .i64 t576]) ?_ 1 _ rfl; (with_reducible repeat (first | refine blk_drewN ?_ _ | refine blk_drew ?_ | refine blk_alloc ?_ _)); refine blk_put (cs := #[.int .i64 t574, .int .i64 t575, .int .i64 t576]) ?_ 0 _ rfl; (with_reducible repeat (first | refine blk_drewN ?_ _ | refine blk_drew ?_ | refine blk_alloc ?_ _)); exact BK567.out⟩, ⟨by repeat (first | (with_reducible first | exact HB.out | apply below_alloc | apply pw_below_drewN | apply below_drew1 | refine below_set ?_ GE557.out | refine below_set ?_ GE562.out | refine below_set ?_ GE567.out) | exact HB.out)⟩⟩
              case rest =>
                clear HC56
                try clear c1
                try clear c2
                try clear p2
                try clear c3
                try clear c4
                try clear c5
                try clear c6
                try clear c7
                try clear c8
                try clear c10
                try clear c14
                try clear c15
                try clear c17
                try clear c17b0
                try clear c18
                try clear c20
                try clear c20b0
                try clear c20b1
                try clear c24
                try clear c28
                try clear c29
                try clear c32
                try clear c33
                try clear c34
                try clear c37
                try clear c42
                try clear c42b0
                try clear c43
                try clear c44
                try clear c46
                try clear c48
                try clear c49
                try clear c51
                try clear c53
                try clear c57
                try clear c58
                try clear c61
                try clear c66
                try clear c66b0
                try clear c67
                try clear c68
                try clear c70
                try clear c72
                try clear c72b0
                try clear c72b1
                try clear c73
                try clear c74
                try clear c76
                try clear c78
                try clear c79
                try clear c81
                try clear hcz11_0
                try clear hcz11_1
                try clear hcz11_2
                try clear hcz16_0
                try clear hcz16_1
                try clear hcz16_2
                try clear hcz35_0
                try clear hcz35_1
                try clear hcz35_2
                try clear hcz38_0
                try clear hcz38_1
                try clear hcz38_2
                try clear hcz39_0
                try clear hcz39_1
                try clear hcz39_2
                try clear hcz41_0
                try clear hcz41_1
                try clear hcz41_2
                try clear hcz45_0
                try clear hcz45_1
                try clear hcz45_2
                try clear hcz47_0
                try clear hcz47_1
                try clear hcz47_2
                try clear hcz50_0
                try clear hcz50_1
                try clear hcz50_2
                try clear hcz52_0
                try clear hcz52_1
                try clear hcz52_2
                try clear hcz59_0
                try clear hcz59_1
                try clear hcz59_2
                try clear hcz62_0
                try clear hcz62_1
                try clear hcz62_2
                try clear hcz63_0
                try clear hcz63_1
                try clear hcz63_2
                try clear hcz65_0
                try clear hcz65_1
                try clear hcz65_2
                try clear hcz69_0
                try clear hcz69_1
                try clear hcz69_2
                try clear hcz71_0
                try clear hcz71_1
                try clear hcz71_2
                try clear hcz75_0
                try clear hcz75_1
                try clear hcz75_2
                try clear hcz77_0
                try clear hcz77_1
                try clear hcz77_2
                try clear hcz80_0
                try clear hcz80_1
                try clear hcz80_2
                try clear hcz82_0
                try clear hcz82_1
                try clear hcz82_2
                try clear hfz11_0
                try clear hfz11_1
                try clear hfz11_2
                try clear hfz16_0
                try clear hfz16_1
                try clear hfz16_2
                try clear hfz35_0
                try clear hfz35_1
                try clear hfz35_2
                try clear hfz38_0
                try clear hfz38_1
                try clear hfz38_2
                try clear hfz39_0
                try clear hfz39_1
                try clear hfz39_2
                try clear hfz41_0
                try clear hfz41_1
                try clear hfz41_2
                try clear hfz45_0
                try clear hfz45_1
                try clear hfz45_2
                try clear hfz47_0
                try clear hfz47_1
                try clear hfz47_2
                try clear hfz50_0
                try clear hfz50_1
                try clear hfz50_2
                try clear hfz52_0
                try clear hfz52_1
                try clear hfz52_2
                try clear hfz59_0
                try clear hfz59_1
                try clear hfz59_2
                try clear hfz62_0
                try clear hfz62_1
                try clear hfz62_2
                try clear hfz63_0
                try clear hfz63_1
                try clear hfz63_2
                try clear hfz65_0
                try clear hfz65_1
                try clear hfz65_2
                try clear hfz69_0
                try clear hfz69_1
                try clear hfz69_2
                try clear hfz71_0
                try clear hfz71_1
                try clear hfz71_2
                try clear hfz75_0
                try clear hfz75_1
                try clear hfz75_2
                try clear hfz77_0
                try clear hfz77_1
                try clear hfz77_2
                try clear hfz80_0
                try clear hfz80_1
                try clear hfz80_2
                try clear hfz82_0
                try clear hfz82_1
                try clear hfz82_2
                try clear p2
                obtain ⟨kq, x84_55, rfl, HA, HJ55, BK557, BK562, BK567, HB⟩ := hcut
                cases kq with
                | zero => exact absurd HA.out (by simp [tipstafflaw16_PanelSteps.j2])
                | succ kj55 =>
                  have H := HA.out
                  clear HA
                  simp only [tipstafflaw16_PanelSteps.j2] at H
                  by_cases c83 : x84_55 = true
                  · subst c83
                    have H1 : (none) = some r := by rw [if_pos rfl] at H; exact H
                    clear H
                    have H := H1
                    clear H1
                    exact absurd H (by simp)
                  · replace c83 := Bool.eq_false_iff.mpr c83
                    subst c83
                    have H1 := H
                    rw [if_neg (show ¬ (false = true) by decide)] at H1
                    clear H
                    have H := H1
                    clear H1
                    replace H := Option.bind_eq_some_iff.mp H
                    obtain ⟨⟨t588, t589, t590, t591⟩, A840, H⟩ := H
                    try dsimp only at H
                    have A84 := Aside0.mk A840
                    clear A840
                    replace H := Option.bind_eq_some_iff.mp H
                    obtain ⟨⟨t592, t593, t594, t595⟩, A850, H⟩ := H
                    replace H : ((panel_Left.f kj55 a0_0 a0_1 a0_2).bind fun bt596 => ((tipstaffref16_Left.f kj55 a0_0 a0_1 a0_2).bind fun bt598 => (if (t588 == t592 && (t589 == t593 && (t590 == t594))) = true then (if t591 = t595 then (if bt596.1 = bt598.1 then (if bt596.2 = bt598.2 then ((tipstafflaw16_awake.f kj55).bind fun t600 => (some t600)) else (none)) else (none)) else (none)) else (none)))) = some r := H
                    have A85 := Aside0.mk A850
                    clear A850
                    replace H := Option.bind_eq_some_iff.mp H
                    obtain ⟨⟨t596, t597⟩, A860, H⟩ := H
                    replace H : ((tipstaffref16_Left.f kj55 a0_0 a0_1 a0_2).bind fun bt598 => (if (t588 == t592 && (t589 == t593 && (t590 == t594))) = true then (if t591 = t595 then (if t596 = bt598.1 then (if t597 = bt598.2 then ((tipstafflaw16_awake.f kj55).bind fun t600 => (some t600)) else (none)) else (none)) else (none)) else (none))) = some r := H
                    have A86 := Aside0.mk A860
                    clear A860
                    replace H := Option.bind_eq_some_iff.mp H
                    obtain ⟨⟨t598, t599⟩, A870, H⟩ := H
                    replace H : (if (t588 == t592 && (t589 == t593 && (t590 == t594))) = true then (if t591 = t595 then (if t596 = t598 then (if t597 = t599 then ((tipstafflaw16_awake.f kj55).bind fun t600 => (some t600)) else (none)) else (none)) else (none)) else (none)) = some r := H
                    have A87 := Aside0.mk A870
                    clear A870
                    by_cases c88 : (t588 == t592 && (t589 == t593 && (t590 == t594))) = true
                    · rw [if_pos c88] at H
                      have c88b0 : (t588 == t592 && (t589 == t593 && (t590 == t594))) = true := c88
                      (try (have c88b1 : decide (t588 = t592 && (t589 == t593 && (t590 == t594))) = true := by simpa using c88))
                      (try (have c88b2 : (t588 == t592 && (t589 == t593 && (t590 == t594))) = true := by simpa using c88))
                      clear c88
                      by_cases c89 : t591 = t595
                      · rw [if_pos c89] at H
                        have c89b0 : (t591 == t595) = true := beq_iff_eq.mpr c89
                        have c89b1 : (t591 != t595) = false := bne_eq_false_iff_eq.mpr c89
                        clear c89
                        by_cases c90 : t596 = t598
                        · rw [if_pos c90] at H
                          have c90b0 : (t596 == t598) = true := beq_iff_eq.mpr c90
                          have c90b1 : (t596 != t598) = false := bne_eq_false_iff_eq.mpr c90
                          clear c90
                          by_cases c91 : t597 = t599
                          · rw [if_pos c91] at H
                            have c91b0 : (t597 == t599) = true := beq_iff_eq.mpr c91
                            have c91b1 : (t597 != t599) = false := bne_eq_false_iff_eq.mpr c91
                            clear c91
                            replace H := Option.bind_eq_some_iff.mp H
                            obtain ⟨t600, A920, H⟩ := H
                            replace H : (some t600) = some r := H
                            have A92 := Aside0.mk A920
                            clear A920
                            obtain rfl := Option.some.inj H
                            have hnb93 := NB557_562.out
                            have hnc93 := NB562_557.out
                            have hnb94 := NB557_567.out
                            have hnc94 := NB567_557.out
                            have hcz95_0 : wc.cell? ⟨gb557, 0, none⟩ = some (.int .i64 a0_0) := (blk_cell BK557.out 0).trans rfl
                            have hcz95_1 : wc.cell? ⟨gb557, 1, none⟩ = some (.int .i64 a0_1) := (blk_cell BK557.out 1).trans rfl
                            have hcz95_2 : wc.cell? ⟨gb557, 2, none⟩ = some (.int .i64 a0_2) := (blk_cell BK557.out 2).trans rfl
                            have hfz95_0 := blk_frozen BK557.out 0
                            have hfz95_1 := blk_frozen BK557.out 1
                            have hfz95_2 := blk_frozen BK557.out 2
                            go_wp2_with (first | ((with_reducible refine gate_callee (f := 35) rfl ?_); refine goesL_ (some 88) rfl rfl Try.func35 (by kernel_rfl) rfl #[.agg #[.int .i64 a0_0, .int .i64 a0_1, .int .i64 a0_2], .int .i64 a2] rfl (by (try simp only [List.map_toArray, List.map_cons, List.map_nil]); first | done | rfl | (simp only [List.length_drop, List.length_take]; rfl)) ?_; (with_reducible refine (panel_Run.calls kj55 a0_0 a0_1 a0_2 a2 t588 t589 t590 t591 _ A84.out).mono ?_); rintro e w96 ⟨rfl, hb⟩; refine ⟨_, rfl, ?_⟩; have n0_ := Aside0.mk (blk_below (g := gb557) (o := .cells #[.int .i64 a0_0, .int .i64 a0_1, .int .i64 a0_2] 23 (0, 0)) (by (with_reducible repeat (first | refine blk_drewN ?_ _ | refine blk_drew ?_ | refine blk_alloc ?_ _)); exact BK557.out) hb); have n1_ := Aside0.mk (blk_below (g := gb562) (o := .cells #[.int .i64 t578, .int .i64 t579, .int .i64 t580] 23 (0, 0)) (by (with_reducible repeat (first | refine blk_drewN ?_ _ | refine blk_drew ?_ | refine blk_alloc ?_ _)); exact BK562.out) hb); have n2_ := Aside0.mk (blk_below (g := gb567) (o := .cells #[.int .i64 t583, .int .i64 t584, .int .i64 t585] 23 (0, 0)) (by (with_reducible repeat (first | refine blk_drewN ?_ _ | refine blk_drew ?_ | refine blk_alloc ?_ _)); exact BK567.out) hb); have n3_ := Aside0.mk (below_step (by repeat (first | (with_reducible first | exact HB.out | apply below_alloc | apply pw_below_drewN | apply below_drew1 | refine below_set ?_ GE557.out | refine below_set ?_ GE562.out | refine below_set ?_ GE567.out) | exact HB.out)) hb); clear BK557; clear BK562; clear BK567; clear HB; have BK557 := n0_; have BK562 := n1_; have BK567 := n2_; have HB := n3_; clear n0_ n1_ n2_ n3_; (try clear hb); (try clear hb2); (try clear hk); (try clear hi); have hnb97 := NB562_567.out; have hnc97 := NB567_562.out; have hcz98_0 : w96.cell? ⟨gb562, 0, none⟩ = some (.int .i64 t578) := (blk_cell BK562.out 0).trans rfl; have hcz98_1 : w96.cell? ⟨gb562, 1, none⟩ = some (.int .i64 t579) := (blk_cell BK562.out 1).trans rfl; have hcz98_2 : w96.cell? ⟨gb562, 2, none⟩ = some (.int .i64 t580) := (blk_cell BK562.out 2).trans rfl; have hfz98_0 := blk_frozen BK562.out 0; have hfz98_1 := blk_frozen BK562.out 1; have hfz98_2 := blk_frozen BK562.out 2; have hcz99_0 : w96.cell? ⟨gb557, 0, none⟩ = some (.int .i64 a0_0) := (blk_cell BK557.out 0).trans rfl; have hcz99_1 : w96.cell? ⟨gb557, 1, none⟩ = some (.int .i64 a0_1) := (blk_cell BK557.out 1).trans rfl; have hcz99_2 : w96.cell? ⟨gb557, 2, none⟩ = some (.int .i64 a0_2) := (blk_cell BK557.out 2).trans rfl; have hfz99_0 := blk_frozen BK557.out 0; have hfz99_1 := blk_frozen BK557.out 1; have hfz99_2 := blk_frozen BK557.out 2) | ((with_reducible refine gate_callee (f := 36) rfl ?_); refine goesL_ (some 94) rfl rfl Try.func36 (by kernel_rfl) rfl #[.agg #[.int .i64 a0_0, .int .i64 a0_1, .int .i64 a0_2], .int .i64 a2] rfl (by (try simp only [List.map_toArray, List.map_cons, List.map_nil]); first | done | rfl | (simp only [List.length_drop, List.length_take]; rfl)) ?_; (with_reducible refine (tipstaffref16_Run.calls kj55 a0_0 a0_1 a0_2 a2 t592 t593 t594 t595 _ A85.out).mono ?_); rintro e w100 ⟨rfl, hb⟩; refine ⟨_, rfl, ?_⟩; have n0_ := Aside0.mk (blk_below (g := gb557) (o := .cells #[.int .i64 a0_0, .int .i64 a0_1, .int .i64 a0_2] 23 (0, 0)) (by (with_reducible repeat (first | refine blk_drewN ?_ _ | refine blk_drew ?_ | refine blk_alloc ?_ _)); refine blk_far ?_ NB557_562.out _; (with_reducible repeat (first | refine blk_drewN ?_ _ | refine blk_drew ?_ | refine blk_alloc ?_ _)); refine blk_far ?_ NB557_562.out _; (with_reducible repeat (first | refine blk_drewN ?_ _ | refine blk_drew ?_ | refine blk_alloc ?_ _)); refine blk_far ?_ NB557_562.out _; (with_reducible repeat (first | refine blk_drewN ?_ _ | refine blk_drew ?_ | refine blk_alloc ?_ _)); exact BK557.out) hb); have n1_ := Aside0.mk (blk_below (g := gb562) (o := .cells #[.int .i64 t588, .int .i64 t589, .int .i64 t590] 23 (0, 0)) (by (with_reducible repeat (first | refine blk_drewN ?_ _ | refine blk_drew ?_ | refine blk_alloc ?_ _)); refine blk_put (cs := #[.int .i64 t588, .int .i64 t589, .int .i64 t580]) ?_ 2 _ rfl; (with_reducible repeat (first | refine blk_drewN ?_ _ | refine blk_drew ?_ | refine blk_alloc ?_ _)); refine blk_put (cs := #[.int .i64 t588, .int .i64 t579, .int .i64 t580]) ?_ 1 _ rfl; (with_reducible repeat (first | refine blk_drewN ?_ _ | refine blk_drew ?_ | refine blk_alloc ?_ _)); refine blk_put (cs := #[.int .i64 t578, .int .i64 t579, .int .i64 t580]) ?_ 0 _ rfl; (with_reducible repeat (first | refine blk_drewN ?_ _ | refine blk_drew ?_ | refine blk_alloc ?_ _)); exact BK562.out) hb); have n2_ := Aside0.mk (blk_below (g := gb567) (o := .cells #[.int .i64 t583, .int .i64 t584, .int .i64 t585] 23 (0, 0)) (by (with_reducible repeat (first | refine blk_drewN ?_ _ | refine blk_drew ?_ | refine blk_alloc ?_ _)); refine blk_far ?_ NB567_562.out _; (with_reducible repeat (first | refine blk_drewN ?_ _ | refine blk_drew ?_ | refine blk_alloc ?_ _)); refine blk_far ?_ NB567_562.out _; (with_reducible repeat (first | refine blk_drewN ?_ _ | refine blk_drew ?_ | refine blk_alloc ?_ _)); refine blk_far ?_ NB567_562.out _; (with_reducible repeat (first | refine blk_drewN ?_ _ | refine blk_drew ?_ | refine blk_alloc ?_ _)); exact BK567.out) hb); have n3_ := Aside0.mk (below_step (by repeat (first | (with_reducible first | exact HB.out | apply below_alloc | apply pw_below_drewN | apply below_drew1 | refine below_set ?_ GE557.out | refine below_set ?_ GE562.out | refine below_set ?_ GE567.out) | exact HB.out)) hb); clear BK557; clear BK562; clear BK567; clear HB; have BK557 := n0_; have BK562 := n1_; have BK567 := n2_; have HB := n3_; clear n0_ n1_ n2_ n3_; (try clear hb); (try clear hb2); (try clear hk); (try clear hi); have hcz101_0 : w100.cell? ⟨gb567, 0, none⟩ = some (.int .i64 t583) := (blk_cell BK567.out 0).trans rfl; have hcz101_1 : w100.cell? ⟨gb567, 1, none⟩ = some (.int .i64 t584) := (blk_cell BK567.out 1).trans rfl; have hcz101_2 : w100.cell? ⟨gb567, 2, none⟩ = some (.int .i64 t585) := (blk_cell BK567.out 2).trans rfl; have hfz101_0 := blk_frozen BK567.out 0; have hfz101_1 := blk_frozen BK567.out 1; have hfz101_2 := blk_frozen BK567.out 2; have hcz102_0 : w100.cell? ⟨gb557, 0, none⟩ = some (.int .i64 a0_0) := (blk_cell BK557.out 0).trans rfl; have hcz102_1 : w100.cell? ⟨gb557, 1, none⟩ = some (.int .i64 a0_1) := (blk_cell BK557.out 1).trans rfl; have hcz102_2 : w100.cell? ⟨gb557, 2, none⟩ = some (.int .i64 a0_2) := (blk_cell BK557.out 2).trans rfl; have hfz102_0 := blk_frozen BK557.out 0; have hfz102_1 := blk_frozen BK557.out 1; have hfz102_2 := blk_frozen BK557.out 2) | ((with_reducible refine gate_callee (f := 27) rfl ?_); refine goesL_ (some 99) rfl rfl Try.func27 (by kernel_rfl) rfl #[.agg #[.int .i64 a0_0, .int .i64 a0_1, .int .i64 a0_2]] rfl (by (try simp only [List.map_toArray, List.map_cons, List.map_nil]); first | done | rfl | (simp only [List.length_drop, List.length_take]; rfl)) ?_; (with_reducible refine (panel_Left.calls kj55 a0_0 a0_1 a0_2 t596 t597 _ A86.out).mono ?_); rintro e w103 ⟨rfl, hb⟩; refine ⟨_, rfl, ?_⟩; have n0_ := Aside0.mk (blk_below (g := gb557) (o := .cells #[.int .i64 a0_0, .int .i64 a0_1, .int .i64 a0_2] 23 (0, 0)) (by (with_reducible repeat (first | refine blk_drewN ?_ _ | refine blk_drew ?_ | refine blk_alloc ?_ _)); refine blk_far ?_ NB557_567.out _; (with_reducible repeat (first | refine blk_drewN ?_ _ | refine blk_drew ?_ | refine blk_alloc ?_ _)); refine blk_far ?_ NB557_567.out _; (with_reducible repeat (first | refine blk_drewN ?_ _ | refine blk_drew ?_ | refine blk_alloc ?_ _)); refine blk_far ?_ NB557_567.out _; (with_reducible repeat (first | refine blk_drewN ?_ _ | refine blk_drew ?_ | refine blk_alloc ?_ _)); exact BK557.out) hb); have n1_ := Aside0.mk (blk_below (g := gb562) (o := .cells #[.int .i64 t588, .int .i64 t589, .int .i64 t590] 23 (0, 0)) (by (with_reducible repeat (first | refine blk_drewN ?_ _ | refine blk_drew ?_ | refine blk_alloc ?_ _)); refine blk_far ?_ NB562_567.out _; (with_reducible repeat (first | refine blk_drewN ?_ _ | refine blk_drew ?_ | refine blk_alloc ?_ _)); refine blk_far ?_ NB562_567.out _; (with_reducible repeat (first | refine blk_drewN ?_ _ | refine blk_drew ?_ | refine blk_alloc ?_ _)); refine blk_far ?_ NB562_567.out _; (with_reducible repeat (first | refine blk_drewN ?_ _ | refine blk_drew ?_ | refine blk_alloc ?_ _)); exact BK562.out) hb); have n2_ := Aside0.mk (blk_below (g := gb567) (o := .cells #[.int .i64 t592, .int .i64 t593, .int .i64 t594] 23 (0, 0)) (by (with_reducible repeat (first | refine blk_drewN ?_ _ | refine blk_drew ?_ | refine blk_alloc ?_ _)); refine blk_put (cs := #[.int .i64 t592, .int .i64 t593, .int .i64 t585]) ?_ 2 _ rfl; (with_reducible repeat (first | refine blk_drewN ?_ _ | refine blk_drew ?_ | refine blk_alloc ?_ _)); refine blk_put (cs := #[.int .i64 t592, .int .i64 t584, .int .i64 t585]) ?_ 1 _ rfl; (with_reducible repeat (first | refine blk_drewN ?_ _ | refine blk_drew ?_ | refine blk_alloc ?_ _)); refine blk_put (cs := #[.int .i64 t583, .int .i64 t584, .int .i64 t585]) ?_ 0 _ rfl; (with_reducible repeat (first | refine blk_drewN ?_ _ | refine blk_drew ?_ | refine blk_alloc ?_ _)); exact BK567.out) hb); have n3_ := Aside0.mk (below_step (by repeat (first | (with_reducible first | exact HB.out | apply below_alloc | apply pw_below_drewN | apply below_drew1 | refine below_set ?_ GE557.out | refine below_set ?_ GE562.out | refine below_set ?_ GE567.out) | exact HB.out)) hb); clear BK557; clear BK562; clear BK567; clear HB; have BK557 := n0_; have BK562 := n1_; have BK567 := n2_; have HB := n3_; clear n0_ n1_ n2_ n3_; (try clear hb); (try clear hb2); (try clear hk); (try clear hi); have hcz104_0 : w103.cell? ⟨gb557, 0, none⟩ = some (.int .i64 a0_0) := (blk_cell BK557.out 0).trans rfl; have hcz104_1 : w103.cell? ⟨gb557, 1, none⟩ = some (.int .i64 a0_1) := (blk_cell BK557.out 1).trans rfl; have hcz104_2 : w103.cell? ⟨gb557, 2, none⟩ = some (.int .i64 a0_2) := (blk_cell BK557.out 2).trans rfl; have hfz104_0 := blk_frozen BK557.out 0; have hfz104_1 := blk_frozen BK557.out 1; have hfz104_2 := blk_frozen BK557.out 2) | ((with_reducible refine gate_callee (f := 37) rfl ?_); refine goesL_ (some 104) rfl rfl Try.func37 (by kernel_rfl) rfl #[.agg #[.int .i64 a0_0, .int .i64 a0_1, .int .i64 a0_2]] rfl (by (try simp only [List.map_toArray, List.map_cons, List.map_nil]); first | done | rfl | (simp only [List.length_drop, List.length_take]; rfl)) ?_; (with_reducible refine (tipstaffref16_Left.calls kj55 a0_0 a0_1 a0_2 t598 t599 _ A87.out).mono ?_); rintro e w105 ⟨rfl, hb⟩; refine ⟨_, rfl, ?_⟩; have n0_ := Aside0.mk (blk_below (g := gb557) (o := .cells #[.int .i64 a0_0, .int .i64 a0_1, .int .i64 a0_2] 23 (0, 0)) (by (with_reducible repeat (first | refine blk_drewN ?_ _ | refine blk_drew ?_ | refine blk_alloc ?_ _)); exact BK557.out) hb); have n1_ := Aside0.mk (blk_below (g := gb562) (o := .cells #[.int .i64 t588, .int .i64 t589, .int .i64 t590] 23 (0, 0)) (by (with_reducible repeat (first | refine blk_drewN ?_ _ | refine blk_drew ?_ | refine blk_alloc ?_ _)); exact BK562.out) hb); have n2_ := Aside0.mk (blk_below (g := gb567) (o := .cells #[.int .i64 t592, .int .i64 t593, .int .i64 t594] 23 (0, 0)) (by (with_reducible repeat (first | refine blk_drewN ?_ _ | refine blk_drew ?_ | refine blk_alloc ?_ _)); exact BK567.out) hb); have n3_ := Aside0.mk (below_step (by repeat (first | (with_reducible first | exact HB.out | apply below_alloc | apply pw_below_drewN | apply below_drew1 | refine below_set ?_ GE557.out | refine below_set ?_ GE562.out | refine below_set ?_ GE567.out) | exact HB.out)) hb); clear BK557; clear BK562; clear BK567; clear HB; have BK557 := n0_; have BK562 := n1_; have BK567 := n2_; have HB := n3_; clear n0_ n1_ n2_ n3_; (try clear hb); (try clear hb2); (try clear hk); (try clear hi); have hcz106_0 : w105.cell? ⟨gb562, 0, none⟩ = some (.int .i64 t588) := (blk_cell BK562.out 0).trans rfl; have hcz106_1 : w105.cell? ⟨gb562, 1, none⟩ = some (.int .i64 t589) := (blk_cell BK562.out 1).trans rfl; have hcz106_2 : w105.cell? ⟨gb562, 2, none⟩ = some (.int .i64 t590) := (blk_cell BK562.out 2).trans rfl; have hfz106_0 := blk_frozen BK562.out 0; have hfz106_1 := blk_frozen BK562.out 1; have hfz106_2 := blk_frozen BK562.out 2; have hcz107_0 : w105.cell? ⟨gb567, 0, none⟩ = some (.int .i64 t592) := (blk_cell BK567.out 0).trans rfl; have hcz107_1 : w105.cell? ⟨gb567, 1, none⟩ = some (.int .i64 t593) := (blk_cell BK567.out 1).trans rfl; have hcz107_2 : w105.cell? ⟨gb567, 2, none⟩ = some (.int .i64 t594) := (blk_cell BK567.out 2).trans rfl; have hfz107_0 := blk_frozen BK567.out 0; have hfz107_1 := blk_frozen BK567.out 1; have hfz107_2 := blk_frozen BK567.out 2) | (go_at_call 9; (with_reducible refine (tipstafflaw16_awake.calls kj55  t600 _ A92.out).mono ?_); rintro e w108 ⟨rfl, hb⟩; have n0_ := Aside0.mk (blk_below (g := gb557) (o := .cells #[.int .i64 a0_0, .int .i64 a0_1, .int .i64 a0_2] 23 (0, 0)) (by (with_reducible repeat (first | refine blk_drewN ?_ _ | refine blk_drew ?_ | refine blk_alloc ?_ _)); exact BK557.out) hb); have n1_ := Aside0.mk (blk_below (g := gb562) (o := .cells #[.int .i64 t588, .int .i64 t589, .int .i64 t590] 23 (0, 0)) (by (with_reducible repeat (first | refine blk_drewN ?_ _ | refine blk_drew ?_ | refine blk_alloc ?_ _)); exact BK562.out) hb); have n2_ := Aside0.mk (blk_below (g := gb567) (o := .cells #[.int .i64 t592, .int .i64 t593, .int .i64 t594] 23 (0, 0)) (by (with_reducible repeat (first | refine blk_drewN ?_ _ | refine blk_drew ?_ | refine blk_alloc ?_ _)); exact BK567.out) hb); have n3_ := Aside0.mk (below_step (by repeat (first | (with_reducible first | exact HB.out | apply below_alloc | apply pw_below_drewN | apply below_drew1 | refine below_set ?_ GE557.out | refine below_set ?_ GE562.out | refine below_set ?_ GE567.out) | exact HB.out)) hb); clear BK557; clear BK562; clear BK567; clear HB; have BK557 := n0_; have BK562 := n1_; have BK567 := n2_; have HB := n3_; clear n0_ n1_ n2_ n3_; (try clear hb); (try clear hb2); (try clear hk); (try clear hi)))
                            go_ret
                            exact ⟨by first | rfl | (simp [errW_none, errW_some] <;> rfl) | (simp [*, errW_none, errW_some] <;> rfl) | (simp (discharger := omega) only [Int.tdiv_eq_ediv_of_nonneg, Int.tmod_eq_emod_of_nonneg] <;> rfl), by repeat (first | (with_reducible first | exact HB.out | apply below_alloc | apply pw_below_drewN | apply below_drew1 | refine below_set ?_ GE557.out | refine below_set ?_ GE562.out | refine below_set ?_ GE567.out) | exact HB.out)⟩
                          · rw [if_neg c91] at H
                            exact absurd H (by simp)
                        · rw [if_neg c90] at H
                          exact absurd H (by simp)
                      · rw [if_neg c89] at H
                        exact absurd H (by simp)
                    · rw [if_neg c88] at H
                      exact absurd H (by simp)

end Go.Proofs.Ytbkidegpgpccfaa.S
