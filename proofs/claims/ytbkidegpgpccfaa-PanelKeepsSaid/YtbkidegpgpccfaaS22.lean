-- PRINTED by print.py (a twelfth state) out of the translation. Not trusted: Lean checks it.
import Derived.Test.YtbkidegpgpccfaaS0
import Derived.Test.YtbkidegpgpccfaaS3
import Derived.Test.YtbkidegpgpccfaaS7
import Derived.Test.YtbkidegpgpccfaaS17
import Derived.Test.YtbkidegpgpccfaaS18
import Derived.Test.YtbkidegpgpccfaaS19
import Derived.Test.YtbkidegpgpccfaaS20
import Derived.Test.YtbkidegpgpccfaaS21
namespace Go.Proofs.Ytbkidegpgpccfaa.S
open Go.RowKit Go.Proofs.YtbkidegpgpccfaaW.PrintWords Go.Proofs.YtbkidegpgpccfaaW.PrintLast Go.Proofs.YtbkidegpgpccfaaW.PrintMore
attribute [local go_sem] Go.Proofs.YtbkidegpgpccfaaW.PrintXtra.isSome_setCell max2_int min2_int max_two min_two max_three min_three max_four min_four   -- for this text's walks alone
set_option linter.unusedVariables false
set_option linter.unusedSimpArgs false

/-! ### tipstafflaw16_PanelKeeps: function 5 -/
def tipstafflaw16_PanelKeeps.j0 : Nat → Bool → Int → Int → Int → Bool → Int → Int → Int → Int → Int → Int → Option (Bool)
  | 0, _, _, _, _, _, _, _, _, _, _, _ => none
  | k + 1, x7, x12, x15, x17, x83, x452000, x452001, x452002, x460000, x460001, x460002 => if x83 = true then (none) else ((tipstafflaw16_far.f x460000 x452000).bind fun t464 => (if t464 > 1 then (none) else (if x460000 < 0 then (none) else (if x460000 > x452001 then (none) else (if ((x12 == 0) != (x452002 == 0)) = true then (none) else (if x17 = (mx 0 (wrap64 (x12 - 1))) then (if x7 = true then (if x452002 = 1 then (if ((x15 == 1) == (x460000 == x460001)) = true then (if x452002 = (-1) then (some ((x15 == (-1)) == (x460000 == 0))) else (some ((x15 == (-1)) == false))) else (none)) else (if ((x15 == 1) == false) = true then (if x452002 = (-1) then (some ((x15 == (-1)) == (x460000 == 0))) else (some ((x15 == (-1)) == false))) else (none))) else (none)) else (none)))))))
def tipstafflaw16_PanelKeeps.f (k : Nat) (a0 : Int) (l1 : List Int) (a2 : Int) : Option (Bool) := (tipstafflaw16_PanelKnown.f k).bind fun t440 => ((tipstafflaw16_made.f k a0 l1).bind fun bt441 => ((tipstaffkit_Mod.f a2 5).bind fun t446 => ((panel_Order.f k bt441.1 bt441.2.1 bt441.2.2.1 t446).bind fun bt447 => ((panel_Left.f k bt447.1 bt447.2.1 bt447.2.2.1).bind fun bt452 => ((panel_Step.f k bt447.1 bt447.2.1 bt447.2.2.1).bind fun bt454 => ((panel_Left.f k bt454.1 bt454.2.1 bt454.2.2.1).bind fun bt460 => (if bt441.2.2.2 = true then (if bt447.2.2.2 = 0 then (if bt452.2 = 0 then (if bt454.2.2.2.2 = 0 then (if bt460.2 = 0 then ((panel_Check.f k bt447.1 bt447.2.1 bt447.2.2.1).bind fun t462 => (if t462 = 0 then ((panel_Check.f k bt454.1 bt454.2.1 bt454.2.2.1).bind fun t463 => (if t463 = 0 then (tipstafflaw16_PanelKeeps.j0 k t440 bt452.1 bt454.2.2.2.1 bt460.1 (bt447.1 != bt441.1) bt447.1 bt447.2.1 bt447.2.2.1 bt454.1 bt454.2.1 bt454.2.2.1) else (tipstafflaw16_PanelKeeps.j0 k t440 bt452.1 bt454.2.2.2.1 bt460.1 true bt447.1 bt447.2.1 bt447.2.2.1 bt454.1 bt454.2.1 bt454.2.2.1))) else (tipstafflaw16_PanelKeeps.j0 k t440 bt452.1 bt454.2.2.2.1 bt460.1 true bt447.1 bt447.2.1 bt447.2.2.1 bt454.1 bt454.2.1 bt454.2.2.1))) else (tipstafflaw16_PanelKeeps.j0 k t440 bt452.1 bt454.2.2.2.1 bt460.1 true bt447.1 bt447.2.1 bt447.2.2.1 bt454.1 bt454.2.1 bt454.2.2.1)) else (tipstafflaw16_PanelKeeps.j0 k t440 bt452.1 bt454.2.2.2.1 bt460.1 true bt447.1 bt447.2.1 bt447.2.2.1 bt454.1 bt454.2.1 bt454.2.2.1)) else (tipstafflaw16_PanelKeeps.j0 k t440 bt452.1 bt454.2.2.2.1 bt460.1 true bt447.1 bt447.2.1 bt447.2.2.1 bt454.1 bt454.2.1 bt454.2.2.1)) else (tipstafflaw16_PanelKeeps.j0 k t440 bt452.1 bt454.2.2.2.1 bt460.1 true bt447.1 bt447.2.1 bt447.2.2.1 bt454.1 bt454.2.1 bt454.2.2.1)) else (tipstafflaw16_PanelKeeps.j0 k t440 bt452.1 bt454.2.2.2.1 bt460.1 true bt447.1 bt447.2.1 bt447.2.2.1 bt454.1 bt454.2.1 bt454.2.2.1))))))))
theorem tipstafflaw16_PanelKeeps.mono_l : ∀ k, (∀ y0 y1 y2 y3 y4 y5 y6 y7 y8 y9 y10, LeO (tipstafflaw16_PanelKeeps.j0 k y0 y1 y2 y3 y4 y5 y6 y7 y8 y9 y10) (tipstafflaw16_PanelKeeps.j0 (k + 1) y0 y1 y2 y3 y4 y5 y6 y7 y8 y9 y10))
  | 0 => fun _ _ _ _ _ _ _ _ _ _ _ r h => by simp [tipstafflaw16_PanelKeeps.j0] at h
  | k + 1 => by
    have ih0 := tipstafflaw16_PanelKeeps.mono_l k
    · intro y0 y1 y2 y3 y4 y5 y6 y7 y8 y9 y10
      unfold tipstafflaw16_PanelKeeps.j0
      repeat' first
      | (with_reducible exact ih0 _ _ _ _ _ _ _ _ _ _ _)
      | (with_reducible exact panel_Check.mono _ _ _ _)
      | (with_reducible exact panel_Left.mono _ _ _ _)
      | (with_reducible exact panel_Order.mono _ _ _ _ _)
      | (with_reducible exact panel_Step.mono _ _ _ _)
      | (with_reducible exact tipstafflaw16_PanelKnown.mono _)
      | (with_reducible exact tipstafflaw16_made.mono _ _ _)
      | (with_reducible exact LeO.refl _)
      | (with_reducible exact LeO.none _)
      | (with_reducible refine LeO.ite ?_ ?_)
      | (with_reducible refine LeO.bind ?_ (fun _ => ?_))
      | exact ih0 _ _ _ _ _ _ _ _ _ _ _
      | exact panel_Check.mono _ _ _ _
      | exact panel_Left.mono _ _ _ _
      | exact panel_Order.mono _ _ _ _ _
      | exact panel_Step.mono _ _ _ _
      | exact tipstafflaw16_PanelKnown.mono _
      | exact tipstafflaw16_made.mono _ _ _
      | exact LeO.none _
      | refine LeO.ite ?_ ?_
      | refine LeO.bind ?_ (fun _ => ?_)
theorem tipstafflaw16_PanelKeeps.mono : ∀ a0 a1 a2 k, LeO (tipstafflaw16_PanelKeeps.f k a0 a1 a2) (tipstafflaw16_PanelKeeps.f (k + 1) a0 a1 a2) := by
  intro a0 a1 a2 k
  have ih0 := tipstafflaw16_PanelKeeps.mono_l k
  unfold tipstafflaw16_PanelKeeps.f
  repeat' first
      | (with_reducible exact ih0 _ _ _ _ _ _ _ _ _ _ _)
      | (with_reducible exact panel_Check.mono _ _ _ _)
      | (with_reducible exact panel_Left.mono _ _ _ _)
      | (with_reducible exact panel_Order.mono _ _ _ _ _)
      | (with_reducible exact panel_Step.mono _ _ _ _)
      | (with_reducible exact tipstafflaw16_PanelKnown.mono _)
      | (with_reducible exact tipstafflaw16_made.mono _ _ _)
      | (with_reducible exact LeO.refl _)
      | (with_reducible exact LeO.none _)
      | (with_reducible refine LeO.ite ?_ ?_)
      | (with_reducible refine LeO.bind ?_ (fun _ => ?_))
      | exact ih0 _ _ _ _ _ _ _ _ _ _ _
      | exact panel_Check.mono _ _ _ _
      | exact panel_Left.mono _ _ _ _
      | exact panel_Order.mono _ _ _ _ _
      | exact panel_Step.mono _ _ _ _
      | exact tipstafflaw16_PanelKnown.mono _
      | exact tipstafflaw16_made.mono _ _ _
      | exact LeO.none _
      | refine LeO.ite ?_ ?_
      | refine LeO.bind ?_ (fun _ => ?_)
def tipstafflaw16_PanelKeeps.T3 : Bool × List (List Nat × List Nat) := (true, [([], []), ([], []), ([1], [1]), ([0, 2, 2], [0, 2]), ([3], [3]), ([4], [4]), ([4], [4]), ([], []), ([7, 5, 3, 0, 1, 2, 3, 4, 5, 7], [5, 7]), ([6, 8, 0, 1, 2, 3, 4, 5, 6, 7, 8], [6])])
def tipstafflaw16_PanelKeeps.B3 : List Nat := [0, 0, 2, 7, 15, 31, 31, 0, 191, 511]
theorem tipstafflaw16_PanelKeeps.tab3 : rtab .any (opsOf Try.f5 3) = tipstafflaw16_PanelKeeps.T3 := by kernel_rfl
theorem tipstafflaw16_PanelKeeps.bits3 : waitsOk tipstafflaw16_PanelKeeps.T3.2 tipstafflaw16_PanelKeeps.B3 = true := by kernel_rfl
set_option maxHeartbeats 8000000 in
set_option maxRecDepth 100000 in
theorem tipstafflaw16_PanelKeeps.calls (k : Nat) (a0 : Int) (A1 : Option Addr) (c1 : Nat) (l1 : List Int) (a2 : Int) (r : Bool) (w : World) (hr1 : Kd.C (Kd.int .i64) w A1 l1.length l1) (hc1 : l1.length ≤ c1) (h : tipstafflaw16_PanelKeeps.f k a0 l1 a2 = some r) :
    Calls Try.prog 5 #[.int .i64 a0, .slice A1 l1.length c1, .int .i64 a2] w fun e w' => e = .returned (.bool r) ∧ Below w.heap.size w w' := by
  have hu23 := Try.underlying23
  have HR1 := Aside0.mk hr1
  have HC1 := Aside0.mk hc1
  clear hr1 hc1
  have HB := Aside0.mk (Below.refl w.heap.size w)
  have H : ((tipstafflaw16_PanelKnown.f k).bind fun t440 => ((tipstafflaw16_made.f k a0 l1).bind fun bt441 => ((tipstaffkit_Mod.f a2 5).bind fun t446 => ((panel_Order.f k bt441.1 bt441.2.1 bt441.2.2.1 t446).bind fun bt447 => ((panel_Left.f k bt447.1 bt447.2.1 bt447.2.2.1).bind fun bt452 => ((panel_Step.f k bt447.1 bt447.2.1 bt447.2.2.1).bind fun bt454 => ((panel_Left.f k bt454.1 bt454.2.1 bt454.2.2.1).bind fun bt460 => (if bt441.2.2.2 = true then (if bt447.2.2.2 = 0 then (if bt452.2 = 0 then (if bt454.2.2.2.2 = 0 then (if bt460.2 = 0 then ((panel_Check.f k bt447.1 bt447.2.1 bt447.2.2.1).bind fun t462 => (if t462 = 0 then ((panel_Check.f k bt454.1 bt454.2.1 bt454.2.2.1).bind fun t463 => (if t463 = 0 then (tipstafflaw16_PanelKeeps.j0 k t440 bt452.1 bt454.2.2.2.1 bt460.1 (bt447.1 != bt441.1) bt447.1 bt447.2.1 bt447.2.2.1 bt454.1 bt454.2.1 bt454.2.2.1) else (tipstafflaw16_PanelKeeps.j0 k t440 bt452.1 bt454.2.2.2.1 bt460.1 true bt447.1 bt447.2.1 bt447.2.2.1 bt454.1 bt454.2.1 bt454.2.2.1))) else (tipstafflaw16_PanelKeeps.j0 k t440 bt452.1 bt454.2.2.2.1 bt460.1 true bt447.1 bt447.2.1 bt447.2.2.1 bt454.1 bt454.2.1 bt454.2.2.1))) else (tipstafflaw16_PanelKeeps.j0 k t440 bt452.1 bt454.2.2.2.1 bt460.1 true bt447.1 bt447.2.1 bt447.2.2.1 bt454.1 bt454.2.1 bt454.2.2.1)) else (tipstafflaw16_PanelKeeps.j0 k t440 bt452.1 bt454.2.2.2.1 bt460.1 true bt447.1 bt447.2.1 bt447.2.2.1 bt454.1 bt454.2.1 bt454.2.2.1)) else (tipstafflaw16_PanelKeeps.j0 k t440 bt452.1 bt454.2.2.2.1 bt460.1 true bt447.1 bt447.2.1 bt447.2.2.1 bt454.1 bt454.2.1 bt454.2.2.1)) else (tipstafflaw16_PanelKeeps.j0 k t440 bt452.1 bt454.2.2.2.1 bt460.1 true bt447.1 bt447.2.1 bt447.2.2.1 bt454.1 bt454.2.1 bt454.2.2.1)) else (tipstafflaw16_PanelKeeps.j0 k t440 bt452.1 bt454.2.2.2.1 bt460.1 true bt447.1 bt447.2.1 bt447.2.2.1 bt454.1 bt454.2.1 bt454.2.2.1))))))))) = some r := h
  clear h
  replace H := Option.bind_eq_some_iff.mp H
  obtain ⟨t440, A40, H⟩ := H
  try dsimp only at H
  have A4 := Aside0.mk A40
  clear A40
  replace H := Option.bind_eq_some_iff.mp H
  obtain ⟨⟨t441, t442, t443, t444⟩, A50, H⟩ := H
  try dsimp only at H
  have A5 := Aside0.mk A50
  clear A50
  replace H := Option.bind_eq_some_iff.mp H
  obtain ⟨t446, A60, H⟩ := H
  try dsimp only at H
  have A6 := Aside0.mk A60
  clear A60
  replace H := Option.bind_eq_some_iff.mp H
  obtain ⟨⟨t447, t448, t449, t450⟩, A70, H⟩ := H
  try dsimp only at H
  have A7 := Aside0.mk A70
  clear A70
  replace H := Option.bind_eq_some_iff.mp H
  obtain ⟨⟨t452, t453⟩, A80, H⟩ := H
  try dsimp only at H
  have A8 := Aside0.mk A80
  clear A80
  replace H := Option.bind_eq_some_iff.mp H
  obtain ⟨⟨t454, t455, t456, t457, t458⟩, A90, H⟩ := H
  try dsimp only at H
  have A9 := Aside0.mk A90
  clear A90
  replace H := Option.bind_eq_some_iff.mp H
  obtain ⟨⟨t460, t461⟩, A100, H⟩ := H
  try dsimp only at H
  have A10 := Aside0.mk A100
  clear A100
  have HC11 := Aside0.mk H
  clear H
  go_enter Try.func5, Try.ntmps5
  try go_wp2_with (first | ((with_reducible refine gate_callee (f := 4) rfl ?_); refine goesL_ (some 19) rfl rfl Try.func4 (by kernel_rfl) rfl #[] rfl (by (try simp only [List.map_toArray, List.map_cons, List.map_nil]); first | done | rfl | (simp only [List.length_drop, List.length_take]; rfl)) ?_; (with_reducible refine (tipstafflaw16_PanelKnown.calls k  t440 _ A4.out).mono ?_); rintro e w12 ⟨rfl, hb⟩; refine ⟨_, rfl, ?_⟩; have n0_ := Aside0.mk (below_step (by repeat (first | (with_reducible first | exact HB.out | apply below_alloc | apply pw_below_drewN | apply below_drew1) | exact HB.out)) hb); clear HB; have HB := n0_; clear n0_; (try clear hb); (try clear hb2); (try clear hk); (try clear hi)) | ((with_reducible refine gate_callee (f := 25) rfl ?_); refine goesL_ (some 23) rfl rfl Try.func25 (by kernel_rfl) rfl #[.int .i64 a0, .slice A1 l1.length c1] rfl (by (try simp only [List.map_toArray, List.map_cons, List.map_nil]); first | done | rfl | (simp only [List.length_drop, List.length_take]; rfl)) ?_; (with_reducible refine (tipstafflaw16_made.calls k a0 _ _ l1 t441 t442 t443 t444 _ ?side1 ?side2 A5.out).mono ?_); (case side1 => repeat (first | exact (Kd.C_below HR1.out HB.out) | (with_reducible refine Kd.C_alloc ?_ _) | (with_reducible refine Kd.C_drewN ?_ _) | (with_reducible refine Kd.C_drew ?_))); (case side2 => exact HC1.out); rintro e w13 ⟨rfl, hb⟩; refine ⟨_, rfl, ?_⟩; have n0_ := Aside0.mk (below_step (by repeat (first | (with_reducible first | exact HB.out | apply below_alloc | apply pw_below_drewN | apply below_drew1) | exact HB.out)) hb); clear HB; have HB := n0_; clear n0_; (try clear hb); (try clear hb2); (try clear hk); (try clear hi)) | ((with_reducible refine gate_dst (N := 8) rfl ?_); (try (refine gate_guard (by rfl) ?_; dsimp only)); refine box_event ?hg (N := 8) ?hd (cs := #[.int .i64 0, .int .i64 0, .int .i64 0]) (t := 23) ?hr ?_; (case hd => rfl); (case hg => rfl); (case hr => first | (go_simp; done) | (go_simp; rfl)); intro gb445 hg w14 hbox hb; have n0_ := Aside0.mk (below_step (by repeat (first | (with_reducible first | exact HB.out | apply below_alloc | apply pw_below_drewN | apply below_drew1) | exact HB.out)) hb); have n1_ := Aside0.mk (hbox); have n2_ := Aside0.mk ((by rw [hg]; exact (below_size (by repeat (first | (with_reducible first | exact HB.out | apply below_alloc | apply pw_below_drewN | apply below_drew1) | exact HB.out))) : w.heap.size ≤ gb445)); have n3_ := Aside0.mk ((by rw [hg]; exact (below_size (by repeat (first | (with_reducible first | exact HB.out | apply below_alloc | apply pw_below_drewN | apply below_drew1) | exact HB.out))) : w.heap.size ≤ gb445)); clear HB; have HB := n0_; have BK445 := n1_; have GW445 := n2_; have GE445 := n3_; clear n0_ n1_ n2_ n3_; clear hb hbox hg; have hcz15_0 : w14.cell? ⟨gb445, 0, none⟩ = some (.int .i64 0) := (blk_cell BK445.out 0).trans rfl; have hcz15_1 : w14.cell? ⟨gb445, 1, none⟩ = some (.int .i64 0) := (blk_cell BK445.out 1).trans rfl; have hcz15_2 : w14.cell? ⟨gb445, 2, none⟩ = some (.int .i64 0) := (blk_cell BK445.out 2).trans rfl; have hfz15_0 := blk_frozen BK445.out 0; have hfz15_1 := blk_frozen BK445.out 1; have hfz15_2 := blk_frozen BK445.out 2))
  have n0_ : Aside0 ((((w14.setCell ⟨gb445, 0, none⟩ (.int .i64 t441)).setCell ⟨gb445, 1, none⟩ (.int .i64 t442)).setCell ⟨gb445, 2, none⟩ (.int .i64 t443)).heap[gb445]? = some (.cells #[.int .i64 t441, .int .i64 t442, .int .i64 t443] 23 (0, 0))) := ⟨by (with_reducible repeat (first | refine blk_drewN ?_ _ | refine blk_drew ?_ | refine blk_alloc ?_ _)); refine blk_put (cs := #[.int .i64 t441, .int .i64 t442, .int .i64 0]) ?_ 2 _ rfl; (with_reducible repeat (first | refine blk_drewN ?_ _ | refine blk_drew ?_ | refine blk_alloc ?_ _)); refine blk_put (cs := #[.int .i64 t441, .int .i64 0, .int .i64 0]) ?_ 1 _ rfl; (with_reducible repeat (first | refine blk_drewN ?_ _ | refine blk_drew ?_ | refine blk_alloc ?_ _)); refine blk_put (cs := #[.int .i64 0, .int .i64 0, .int .i64 0]) ?_ 0 _ rfl; (with_reducible repeat (first | refine blk_drewN ?_ _ | refine blk_drew ?_ | refine blk_alloc ?_ _)); exact BK445.out⟩
  have n1_ : Aside0 (Below w.heap.size w (((w14.setCell ⟨gb445, 0, none⟩ (.int .i64 t441)).setCell ⟨gb445, 1, none⟩ (.int .i64 t442)).setCell ⟨gb445, 2, none⟩ (.int .i64 t443))) := ⟨by repeat (first | (with_reducible first | exact HB.out | apply below_alloc | apply pw_below_drewN | apply below_drew1 | refine below_set ?_ GE445.out) | exact HB.out)⟩
  (try clear BK445)
  (try clear HB)
  generalize (((w14.setCell ⟨gb445, 0, none⟩ (.int .i64 t441)).setCell ⟨gb445, 1, none⟩ (.int .i64 t442)).setCell ⟨gb445, 2, none⟩ (.int .i64 t443)) = w16 at n0_ n1_ ⊢
  have BK445 := n0_
  have HB := n1_
  clear n0_ n1_
  have n0_ := Aside0.mk (blk_drew BK445.out)
  have n1_ := Aside0.mk (below_drew1 HB.out)
  clear BK445
  clear HB
  have BK445 := n0_
  have HB := n1_
  clear n0_ n1_
  refine start_ (n := 10) (S := fun w' => w'.cell? ⟨gb445, 0, none⟩ = some (.int .i64 t441) ∧ w'.cell? ⟨gb445, 1, none⟩ = some (.int .i64 t442) ∧ w'.cell? ⟨gb445, 2, none⟩ = some (.int .i64 t443)) (ds := []) #[false, false, false, false, false, false, false, false, false, false] (by kernel_rfl) rfl rfl ⟨(blk_cell BK445.out 0).trans rfl, (blk_cell BK445.out 1).trans rfl, (blk_cell BK445.out 2).trans rfl⟩ (fun hHeld => ?_); refine with_tabW tipstafflaw16_PanelKeeps.tab3 tipstafflaw16_PanelKeeps.bits3 (fun HT_ HW_ => ?_)
  generalize w16.drew = w17 at BK445 HB hHeld ⊢
  refine pure_ (i := 1) (N := some 28) (v := ?_) (a' := ?_) #[false, true, false, false, false, false, false, false, false, false] rfl rfl (any_of HT_.out (by kernel_rfl)) (fun _ _ _ h => h) (Or.inl ⟨by rfl, ?_⟩) ?_ ?_
  rotate_left
  · intro w'
    go_simp
    with_reducible rfl
  rotate_left
  · simp only [Act.put, List.setIfInBounds_toArray, List.set_cons_zero, List.set_cons_succ, i64_w, i32_w]
    rfl
  refine take_ (i := 0) (N := some 27) (v := ?_) (a' := ?_) #[true, true, false, false, false, false, false, false, false, false] rfl rfl (take_ofW HT_.out HW_.out (by kernel_rfl)) (fun _ _ _ h => h) (Or.inl ⟨by rfl, ?_⟩) hHeld ?_ ?_
  rotate_left
  · rintro w' ⟨s0, s1, s2⟩
    go_simp
    with_reducible rfl
  rotate_left
  · simp only [Act.put, List.setIfInBounds_toArray, List.set_cons_zero, List.set_cons_succ, i64_w, i32_w]
    rfl
  refine join_ (σ := Nat) 2 #[true, true, true, true, true, true, true, true, false, false] (fun s_ => [(29, .int .i64 t446), (30, .tuple #[.agg #[.int .i64 t447, .int .i64 t448, .int .i64 t449], .int .i64 t450]), (10, .pointer (some ⟨s_, 0, none⟩)), (26, .tuple #[.agg #[.int .i64 t447, .int .i64 t448, .int .i64 t449], .int .i64 t450]), (31, .agg #[.int .i64 t447, .int .i64 t448, .int .i64 t449]), (32, .int .i64 t450)]) (fun s_ w' => (w'.cell? ⟨gb445, 0, none⟩ = some (.int .i64 t441) ∧ w'.cell? ⟨gb445, 1, none⟩ = some (.int .i64 t442) ∧ w'.cell? ⟨gb445, 2, none⟩ = some (.int .i64 t443)) ∧ (w'.heap[gb445]? = some (.cells #[.int .i64 t441, .int .i64 t442, .int .i64 t443] 23 (0, 0))) ∧ (w'.heap[s_]? = some (.cells #[.int .i64 0, .int .i64 0, .int .i64 0] 23 (0, 0))) ∧ (w.heap.size ≤ s_) ∧ (w.heap.size ≤ s_) ∧ (gb445 ≠ s_) ∧ (s_ ≠ gb445) ∧ (Below w.heap.size w w')) ?_ ?_
  rotate_left
  · intro hCont
    refine two_ (i := 2) (j := 7) (Ni := some 29) (Nj := some 10) #[true, true, true, false, false, false, false, false, false, false] #[true, true, false, false, false, false, false, true, false, false] rfl rfl rfl rfl (two_of HT_.out (by kernel_rfl)) (by decide) (by decide) (fun K hK => ?_) (fun K hK => ?_)
    · skip
      refine goes_ Try.func26 (by kernel_rfl) rfl #[.int .i64 a2, .int .i64 5] (by rfl) rfl rfl (by (try simp only [List.map_toArray, List.map_cons, List.map_nil]); first | done | rfl | (simp only [List.length_drop, List.length_take]; rfl)) ?_
      with_reducible refine (tipstaffkit_Mod.calls a2 5 t446 _ A6.out).mono ?_
      rintro e w' ⟨rfl, ⟨nd, rfl⟩⟩
      refine ⟨_, rfl, ?_⟩
      refine hK.out _ _ ⟨(blk_cell BK445.out 0).trans rfl, (blk_cell BK445.out 1).trans rfl, (blk_cell BK445.out 2).trans rfl⟩ (fun hHeld => ?_)
      clear hK K
      refine norm_ (a' := ?_) ?_ ?_
      rotate_left
      · show Act.put _ (some 29) _ = _
        simp only [Act.put, List.setIfInBounds_toArray, List.set_cons_zero, List.set_cons_succ, i64_w, i32_w]
        rfl
      refine two_ (i := 3) (j := 7) (Ni := some 30) (Nj := some 10) #[true, true, true, true, false, false, false, false, false, false] #[true, true, true, false, false, false, false, true, false, false] rfl rfl rfl rfl (two_of HT_.out (by kernel_rfl)) (by decide) (by decide) (fun K hK => ?_) (fun K hK => ?_)
      · skip
        refine goes_ Try.func20 (by kernel_rfl) rfl #[.agg #[.int .i64 t441, .int .i64 t442, .int .i64 t443], .int .i64 t446] (by rfl) rfl rfl (by (try simp only [List.map_toArray, List.map_cons, List.map_nil]); first | done | rfl | (simp only [List.length_drop, List.length_take]; rfl)) ?_
        with_reducible refine (panel_Order.calls k t441 t442 t443 t446 t447 t448 t449 t450 _ A7.out).mono ?_
        rintro e w18 ⟨rfl, hb⟩
        refine ⟨_, rfl, ?_⟩
        have n0_ := Aside0.mk (blk_below (g := gb445) (o := .cells #[.int .i64 t441, .int .i64 t442, .int .i64 t443] 23 (0, 0)) (by (with_reducible repeat (first | refine blk_drewN ?_ _ | refine blk_drew ?_ | refine blk_alloc ?_ _)); exact BK445.out) hb)
        have n1_ := Aside0.mk (below_step (by repeat (first | (with_reducible first | exact HB.out | apply below_alloc | apply pw_below_drewN | apply below_drew1 | refine below_set ?_ GE445.out) | exact HB.out)) hb)
        clear BK445
        clear HB
        have BK445 := n0_
        have HB := n1_
        clear n0_ n1_
        (try clear hb)
        (try clear hb2)
        (try clear hk)
        (try clear hi)
        refine hK.out _ _ ⟨(blk_cell BK445.out 0).trans rfl, (blk_cell BK445.out 1).trans rfl, (blk_cell BK445.out 2).trans rfl⟩ (fun hHeld => ?_)
        clear hK K
        refine norm_ (a' := ?_) ?_ ?_
        rotate_left
        · show Act.put _ (some 30) _ = _
          simp only [Act.put, List.setIfInBounds_toArray, List.set_cons_zero, List.set_cons_succ, i64_w, i32_w]
          rfl
        refine pure_ (i := 4) (N := some 26) (v := ?_) (a' := ?_) #[true, true, true, true, true, false, false, false, false, false] rfl rfl (any_of HT_.out (by kernel_rfl)) (fun _ _ _ h => h) (Or.inl ⟨by rfl, ?_⟩) ?_ ?_
        rotate_left
        · intro w'
          go_simp
          with_reducible rfl
        rotate_left
        · simp only [Act.put, List.setIfInBounds_toArray, List.set_cons_zero, List.set_cons_succ, i64_w, i32_w]
          rfl
        refine pure_ (i := 5) (N := some 31) (v := ?_) (a' := ?_) #[true, true, true, true, true, true, false, false, false, false] rfl rfl (any_of HT_.out (by kernel_rfl)) (fun _ _ _ h => h) (Or.inl ⟨by rfl, ?_⟩) ?_ ?_
        rotate_left
        · intro w'
          go_simp
          with_reducible rfl
        rotate_left
        · simp only [Act.put, List.setIfInBounds_toArray, List.set_cons_zero, List.set_cons_succ, i64_w, i32_w]
          rfl
        refine pure_ (i := 6) (N := some 32) (v := ?_) (a' := ?_) #[true, true, true, true, true, true, true, false, false, false] rfl rfl (any_of HT_.out (by kernel_rfl)) (fun _ _ _ h => h) (Or.inl ⟨by rfl, ?_⟩) ?_ ?_
        rotate_left
        · intro w'
          go_simp
          with_reducible rfl
        rotate_left
        · simp only [Act.put, List.setIfInBounds_toArray, List.set_cons_zero, List.set_cons_succ, i64_w, i32_w]
          rfl
        refine one_ (i := 7) (N := some 10) #[true, true, true, true, true, true, true, true, false, false] rfl rfl (one_of HT_.out (by kernel_rfl)) (by decide) (fun K hK => ?_)
        refine box_step ?hg (N := 10) ?hd (cs := #[.int .i64 0, .int .i64 0, .int .i64 0]) (t := 23) ?hr ?_; (case hd => rfl); (case hg => rfl); (case hr => first | (go_simp; done) | (go_simp; rfl))
        intro gb451 hg w19 hbox hb
        have n0_ := Aside0.mk (blk_below (g := gb445) (o := .cells #[.int .i64 t441, .int .i64 t442, .int .i64 t443] 23 (0, 0)) (by (with_reducible repeat (first | refine blk_drewN ?_ _ | refine blk_drew ?_ | refine blk_alloc ?_ _)); exact BK445.out) hb)
        have n1_ := Aside0.mk (below_step (by repeat (first | (with_reducible first | exact HB.out | apply below_alloc | apply pw_below_drewN | apply below_drew1 | refine below_set ?_ GE445.out) | exact HB.out)) hb)
        have n2_ := Aside0.mk (hbox)
        have n3_ := Aside0.mk ((by rw [hg]; exact (below_size (by repeat (first | (with_reducible first | exact HB.out | apply below_alloc | apply pw_below_drewN | apply below_drew1 | refine below_set ?_ GE445.out) | exact HB.out))) : w.heap.size ≤ gb451))
        have n4_ := Aside0.mk ((by rw [hg]; exact (below_size (by repeat (first | (with_reducible first | exact HB.out | apply below_alloc | apply pw_below_drewN | apply below_drew1 | refine below_set ?_ GE445.out) | exact HB.out))) : w.heap.size ≤ gb451))
        have n5_ := Aside0.mk ((by rw [hg]; exact Nat.ne_of_lt (blk_lt (g := gb445) (o := .cells #[.int .i64 t441, .int .i64 t442, .int .i64 t443] 23 (0, 0)) (by (with_reducible repeat (first | refine blk_drewN ?_ _ | refine blk_drew ?_ | refine blk_alloc ?_ _)); exact BK445.out)) : gb445 ≠ gb451))
        have n6_ := Aside0.mk ((by rw [hg]; exact Nat.ne_of_gt (blk_lt (g := gb445) (o := .cells #[.int .i64 t441, .int .i64 t442, .int .i64 t443] 23 (0, 0)) (by (with_reducible repeat (first | refine blk_drewN ?_ _ | refine blk_drew ?_ | refine blk_alloc ?_ _)); exact BK445.out)) : gb451 ≠ gb445))
        clear BK445
        clear HB
        have BK445 := n0_
        have HB := n1_
        have BK451 := n2_
        have GW451 := n3_
        have GE451 := n4_
        have NB445_451 := n5_
        have NB451_445 := n6_
        clear n0_ n1_ n2_ n3_ n4_ n5_ n6_
        clear hb hbox hg
        refine hK.out _ _ ⟨(blk_cell BK445.out 0).trans rfl, (blk_cell BK445.out 1).trans rfl, (blk_cell BK445.out 2).trans rfl⟩ (fun hHeld => ?_)
        clear hK K
        refine norm_ (a' := ?_) ?_ ?_
        rotate_left
        · show Act.put _ (some 10) _ = _
          simp only [Act.put, List.setIfInBounds_toArray, List.set_cons_zero, List.set_cons_succ, i64_w, i32_w]
          rfl
        exact norm_ (by simp only [putAll, Act.put, List.setIfInBounds_toArray, List.set_cons_zero, List.set_cons_succ]) (hCont (gb451) _ ⟨hHeld, (by (with_reducible repeat (first | refine blk_drewN ?_ _ | refine blk_drew ?_ | refine blk_alloc ?_ _)); exact BK445.out), (by (with_reducible repeat (first | refine blk_drewN ?_ _ | refine blk_drew ?_ | refine blk_alloc ?_ _)); exact BK451.out), GW451.out, GE451.out, NB445_451.out, NB451_445.out, (by repeat (first | (with_reducible first | exact HB.out | apply below_alloc | apply pw_below_drewN | apply below_drew1 | refine below_set ?_ GE445.out | refine below_set ?_ GE451.out) | exact HB.out))⟩)
      · skip
        refine box_step ?hg (N := 10) ?hd (cs := #[.int .i64 0, .int .i64 0, .int .i64 0]) (t := 23) ?hr ?_; (case hd => rfl); (case hg => rfl); (case hr => first | (go_simp; done) | (go_simp; rfl))
        intro gb451 hg w18 hbox hb
        have n0_ := Aside0.mk (blk_below (g := gb445) (o := .cells #[.int .i64 t441, .int .i64 t442, .int .i64 t443] 23 (0, 0)) (by (with_reducible repeat (first | refine blk_drewN ?_ _ | refine blk_drew ?_ | refine blk_alloc ?_ _)); exact BK445.out) hb)
        have n1_ := Aside0.mk (below_step (by repeat (first | (with_reducible first | exact HB.out | apply below_alloc | apply pw_below_drewN | apply below_drew1 | refine below_set ?_ GE445.out) | exact HB.out)) hb)
        have n2_ := Aside0.mk (hbox)
        have n3_ := Aside0.mk ((by rw [hg]; exact (below_size (by repeat (first | (with_reducible first | exact HB.out | apply below_alloc | apply pw_below_drewN | apply below_drew1 | refine below_set ?_ GE445.out) | exact HB.out))) : w.heap.size ≤ gb451))
        have n4_ := Aside0.mk ((by rw [hg]; exact (below_size (by repeat (first | (with_reducible first | exact HB.out | apply below_alloc | apply pw_below_drewN | apply below_drew1 | refine below_set ?_ GE445.out) | exact HB.out))) : w.heap.size ≤ gb451))
        have n5_ := Aside0.mk ((by rw [hg]; exact Nat.ne_of_lt (blk_lt (g := gb445) (o := .cells #[.int .i64 t441, .int .i64 t442, .int .i64 t443] 23 (0, 0)) (by (with_reducible repeat (first | refine blk_drewN ?_ _ | refine blk_drew ?_ | refine blk_alloc ?_ _)); exact BK445.out)) : gb445 ≠ gb451))
        have n6_ := Aside0.mk ((by rw [hg]; exact Nat.ne_of_gt (blk_lt (g := gb445) (o := .cells #[.int .i64 t441, .int .i64 t442, .int .i64 t443] 23 (0, 0)) (by (with_reducible repeat (first | refine blk_drewN ?_ _ | refine blk_drew ?_ | refine blk_alloc ?_ _)); exact BK445.out)) : gb451 ≠ gb445))
        clear BK445
        clear HB
        have BK445 := n0_
        have HB := n1_
        have BK451 := n2_
        have GW451 := n3_
        have GE451 := n4_
        have NB445_451 := n5_
        have NB451_445 := n6_
        clear n0_ n1_ n2_ n3_ n4_ n5_ n6_
        clear hb hbox hg
        refine hK.out _ _ ⟨(blk_cell BK445.out 0).trans rfl, (blk_cell BK445.out 1).trans rfl, (blk_cell BK445.out 2).trans rfl⟩ (fun hHeld => ?_)
        clear hK K
        refine norm_ (a' := ?_) ?_ ?_
        rotate_left
        · show Act.put _ (some 10) _ = _
          simp only [Act.put, List.setIfInBounds_toArray, List.set_cons_zero, List.set_cons_succ, i64_w, i32_w]
          rfl
        refine one_ (i := 3) (N := some 30) #[true, true, true, true, false, false, false, true, false, false] rfl rfl (one_of HT_.out (by kernel_rfl)) (by decide) (fun K hK => ?_)
        refine goes_ Try.func20 (by kernel_rfl) rfl #[.agg #[.int .i64 t441, .int .i64 t442, .int .i64 t443], .int .i64 t446] (by rfl) rfl rfl (by (try simp only [List.map_toArray, List.map_cons, List.map_nil]); first | done | rfl | (simp only [List.length_drop, List.length_take]; rfl)) ?_
        with_reducible refine (panel_Order.calls k t441 t442 t443 t446 t447 t448 t449 t450 _ A7.out).mono ?_
        rintro e w19 ⟨rfl, hb⟩
        refine ⟨_, rfl, ?_⟩
        have n0_ := Aside0.mk (blk_below (g := gb445) (o := .cells #[.int .i64 t441, .int .i64 t442, .int .i64 t443] 23 (0, 0)) (by (with_reducible repeat (first | refine blk_drewN ?_ _ | refine blk_drew ?_ | refine blk_alloc ?_ _)); exact BK445.out) hb)
        have n1_ := Aside0.mk (blk_below (g := gb451) (o := .cells #[.int .i64 0, .int .i64 0, .int .i64 0] 23 (0, 0)) (by (with_reducible repeat (first | refine blk_drewN ?_ _ | refine blk_drew ?_ | refine blk_alloc ?_ _)); exact BK451.out) hb)
        have n2_ := Aside0.mk (below_step (by repeat (first | (with_reducible first | exact HB.out | apply below_alloc | apply pw_below_drewN | apply below_drew1 | refine below_set ?_ GE445.out | refine below_set ?_ GE451.out) | exact HB.out)) hb)
        clear BK445
        clear BK451
        clear HB
        have BK445 := n0_
        have BK451 := n1_
        have HB := n2_
        clear n0_ n1_ n2_
        (try clear hb)
        (try clear hb2)
        (try clear hk)
        (try clear hi)
        refine hK.out _ _ ⟨(blk_cell BK445.out 0).trans rfl, (blk_cell BK445.out 1).trans rfl, (blk_cell BK445.out 2).trans rfl⟩ (fun hHeld => ?_)
        clear hK K
        refine norm_ (a' := ?_) ?_ ?_
        rotate_left
        · show Act.put _ (some 30) _ = _
          simp only [Act.put, List.setIfInBounds_toArray, List.set_cons_zero, List.set_cons_succ, i64_w, i32_w]
          rfl
        refine pure_ (i := 4) (N := some 26) (v := ?_) (a' := ?_) #[true, true, true, true, true, false, false, true, false, false] rfl rfl (any_of HT_.out (by kernel_rfl)) (fun _ _ _ h => h) (Or.inl ⟨by rfl, ?_⟩) ?_ ?_
        rotate_left
        · intro w'
          go_simp
          with_reducible rfl
        rotate_left
        · simp only [Act.put, List.setIfInBounds_toArray, List.set_cons_zero, List.set_cons_succ, i64_w, i32_w]
          rfl
        refine pure_ (i := 5) (N := some 31) (v := ?_) (a' := ?_) #[true, true, true, true, true, true, false, true, false, false] rfl rfl (any_of HT_.out (by kernel_rfl)) (fun _ _ _ h => h) (Or.inl ⟨by rfl, ?_⟩) ?_ ?_
        rotate_left
        · intro w'
          go_simp
          with_reducible rfl
        rotate_left
        · simp only [Act.put, List.setIfInBounds_toArray, List.set_cons_zero, List.set_cons_succ, i64_w, i32_w]
          rfl
        refine pure_ (i := 6) (N := some 32) (v := ?_) (a' := ?_) #[true, true, true, true, true, true, true, true, false, false] rfl rfl (any_of HT_.out (by kernel_rfl)) (fun _ _ _ h => h) (Or.inl ⟨by rfl, ?_⟩) ?_ ?_
        rotate_left
        · intro w'
          go_simp
          with_reducible rfl
        rotate_left
        · simp only [Act.put, List.setIfInBounds_toArray, List.set_cons_zero, List.set_cons_succ, i64_w, i32_w]
          rfl
        exact norm_ (by simp only [putAll, Act.put, List.setIfInBounds_toArray, List.set_cons_zero, List.set_cons_succ]) (hCont (gb451) _ ⟨hHeld, (by (with_reducible repeat (first | refine blk_drewN ?_ _ | refine blk_drew ?_ | refine blk_alloc ?_ _)); exact BK445.out), (by (with_reducible repeat (first | refine blk_drewN ?_ _ | refine blk_drew ?_ | refine blk_alloc ?_ _)); exact BK451.out), GW451.out, GE451.out, NB445_451.out, NB451_445.out, (by repeat (first | (with_reducible first | exact HB.out | apply below_alloc | apply pw_below_drewN | apply below_drew1 | refine below_set ?_ GE445.out | refine below_set ?_ GE451.out) | exact HB.out))⟩)
    · skip
      refine box_step ?hg (N := 10) ?hd (cs := #[.int .i64 0, .int .i64 0, .int .i64 0]) (t := 23) ?hr ?_; (case hd => rfl); (case hg => rfl); (case hr => first | (go_simp; done) | (go_simp; rfl))
      intro gb451 hg w18 hbox hb
      have n0_ := Aside0.mk (blk_below (g := gb445) (o := .cells #[.int .i64 t441, .int .i64 t442, .int .i64 t443] 23 (0, 0)) (by (with_reducible repeat (first | refine blk_drewN ?_ _ | refine blk_drew ?_ | refine blk_alloc ?_ _)); exact BK445.out) hb)
      have n1_ := Aside0.mk (below_step (by repeat (first | (with_reducible first | exact HB.out | apply below_alloc | apply pw_below_drewN | apply below_drew1 | refine below_set ?_ GE445.out) | exact HB.out)) hb)
      have n2_ := Aside0.mk (hbox)
      have n3_ := Aside0.mk ((by rw [hg]; exact (below_size (by repeat (first | (with_reducible first | exact HB.out | apply below_alloc | apply pw_below_drewN | apply below_drew1 | refine below_set ?_ GE445.out) | exact HB.out))) : w.heap.size ≤ gb451))
      have n4_ := Aside0.mk ((by rw [hg]; exact (below_size (by repeat (first | (with_reducible first | exact HB.out | apply below_alloc | apply pw_below_drewN | apply below_drew1 | refine below_set ?_ GE445.out) | exact HB.out))) : w.heap.size ≤ gb451))
      have n5_ := Aside0.mk ((by rw [hg]; exact Nat.ne_of_lt (blk_lt (g := gb445) (o := .cells #[.int .i64 t441, .int .i64 t442, .int .i64 t443] 23 (0, 0)) (by (with_reducible repeat (first | refine blk_drewN ?_ _ | refine blk_drew ?_ | refine blk_alloc ?_ _)); exact BK445.out)) : gb445 ≠ gb451))
      have n6_ := Aside0.mk ((by rw [hg]; exact Nat.ne_of_gt (blk_lt (g := gb445) (o := .cells #[.int .i64 t441, .int .i64 t442, .int .i64 t443] 23 (0, 0)) (by (with_reducible repeat (first | refine blk_drewN ?_ _ | refine blk_drew ?_ | refine blk_alloc ?_ _)); exact BK445.out)) : gb451 ≠ gb445))
      clear BK445
      clear HB
      have BK445 := n0_
      have HB := n1_
      have BK451 := n2_
      have GW451 := n3_
      have GE451 := n4_
      have NB445_451 := n5_
      have NB451_445 := n6_
      clear n0_ n1_ n2_ n3_ n4_ n5_ n6_
      clear hb hbox hg
      refine hK.out _ _ ⟨(blk_cell BK445.out 0).trans rfl, (blk_cell BK445.out 1).trans rfl, (blk_cell BK445.out 2).trans rfl⟩ (fun hHeld => ?_)
      clear hK K
      refine norm_ (a' := ?_) ?_ ?_
      rotate_left
      · show Act.put _ (some 10) _ = _
        simp only [Act.put, List.setIfInBounds_toArray, List.set_cons_zero, List.set_cons_succ, i64_w, i32_w]
        rfl
      refine one_ (i := 2) (N := some 29) #[true, true, true, false, false, false, false, true, false, false] rfl rfl (one_of HT_.out (by kernel_rfl)) (by decide) (fun K hK => ?_)
      refine goes_ Try.func26 (by kernel_rfl) rfl #[.int .i64 a2, .int .i64 5] (by rfl) rfl rfl (by (try simp only [List.map_toArray, List.map_cons, List.map_nil]); first | done | rfl | (simp only [List.length_drop, List.length_take]; rfl)) ?_
      with_reducible refine (tipstaffkit_Mod.calls a2 5 t446 _ A6.out).mono ?_
      rintro e w' ⟨rfl, ⟨nd, rfl⟩⟩
      refine ⟨_, rfl, ?_⟩
      refine hK.out _ _ ⟨(blk_cell BK445.out 0).trans rfl, (blk_cell BK445.out 1).trans rfl, (blk_cell BK445.out 2).trans rfl⟩ (fun hHeld => ?_)
      clear hK K
      refine norm_ (a' := ?_) ?_ ?_
      rotate_left
      · show Act.put _ (some 29) _ = _
        simp only [Act.put, List.setIfInBounds_toArray, List.set_cons_zero, List.set_cons_succ, i64_w, i32_w]
        rfl
      refine one_ (i := 3) (N := some 30) #[true, true, true, true, false, false, false, true, false, false] rfl rfl (one_of HT_.out (by kernel_rfl)) (by decide) (fun K hK => ?_)
      refine goes_ Try.func20 (by kernel_rfl) rfl #[.agg #[.int .i64 t441, .int .i64 t442, .int .i64 t443], .int .i64 t446] (by rfl) rfl rfl (by (try simp only [List.map_toArray, List.map_cons, List.map_nil]); first | done | rfl | (simp only [List.length_drop, List.length_take]; rfl)) ?_
      with_reducible refine (panel_Order.calls k t441 t442 t443 t446 t447 t448 t449 t450 _ A7.out).mono ?_
      rintro e w19 ⟨rfl, hb⟩
      refine ⟨_, rfl, ?_⟩
      have n0_ := Aside0.mk (blk_below (g := gb445) (o := .cells #[.int .i64 t441, .int .i64 t442, .int .i64 t443] 23 (0, 0)) (by (with_reducible repeat (first | refine blk_drewN ?_ _ | refine blk_drew ?_ | refine blk_alloc ?_ _)); exact BK445.out) hb)
      have n1_ := Aside0.mk (blk_below (g := gb451) (o := .cells #[.int .i64 0, .int .i64 0, .int .i64 0] 23 (0, 0)) (by (with_reducible repeat (first | refine blk_drewN ?_ _ | refine blk_drew ?_ | refine blk_alloc ?_ _)); exact BK451.out) hb)
      have n2_ := Aside0.mk (below_step (by repeat (first | (with_reducible first | exact HB.out | apply below_alloc | apply pw_below_drewN | apply below_drew1 | refine below_set ?_ GE445.out | refine below_set ?_ GE451.out) | exact HB.out)) hb)
      clear BK445
      clear BK451
      clear HB
      have BK445 := n0_
      have BK451 := n1_
      have HB := n2_
      clear n0_ n1_ n2_
      (try clear hb)
      (try clear hb2)
      (try clear hk)
      (try clear hi)
      refine hK.out _ _ ⟨(blk_cell BK445.out 0).trans rfl, (blk_cell BK445.out 1).trans rfl, (blk_cell BK445.out 2).trans rfl⟩ (fun hHeld => ?_)
      clear hK K
      refine norm_ (a' := ?_) ?_ ?_
      rotate_left
      · show Act.put _ (some 30) _ = _
        simp only [Act.put, List.setIfInBounds_toArray, List.set_cons_zero, List.set_cons_succ, i64_w, i32_w]
        rfl
      refine pure_ (i := 4) (N := some 26) (v := ?_) (a' := ?_) #[true, true, true, true, true, false, false, true, false, false] rfl rfl (any_of HT_.out (by kernel_rfl)) (fun _ _ _ h => h) (Or.inl ⟨by rfl, ?_⟩) ?_ ?_
      rotate_left
      · intro w'
        go_simp
        with_reducible rfl
      rotate_left
      · simp only [Act.put, List.setIfInBounds_toArray, List.set_cons_zero, List.set_cons_succ, i64_w, i32_w]
        rfl
      refine pure_ (i := 5) (N := some 31) (v := ?_) (a' := ?_) #[true, true, true, true, true, true, false, true, false, false] rfl rfl (any_of HT_.out (by kernel_rfl)) (fun _ _ _ h => h) (Or.inl ⟨by rfl, ?_⟩) ?_ ?_
      rotate_left
      · intro w'
        go_simp
        with_reducible rfl
      rotate_left
      · simp only [Act.put, List.setIfInBounds_toArray, List.set_cons_zero, List.set_cons_succ, i64_w, i32_w]
        rfl
      refine pure_ (i := 6) (N := some 32) (v := ?_) (a' := ?_) #[true, true, true, true, true, true, true, true, false, false] rfl rfl (any_of HT_.out (by kernel_rfl)) (fun _ _ _ h => h) (Or.inl ⟨by rfl, ?_⟩) ?_ ?_
      rotate_left
      · intro w'
        go_simp
        with_reducible rfl
      rotate_left
      · simp only [Act.put, List.setIfInBounds_toArray, List.set_cons_zero, List.set_cons_succ, i64_w, i32_w]
        rfl
      exact norm_ (by simp only [putAll, Act.put, List.setIfInBounds_toArray, List.set_cons_zero, List.set_cons_succ]) (hCont (gb451) _ ⟨hHeld, (by (with_reducible repeat (first | refine blk_drewN ?_ _ | refine blk_drew ?_ | refine blk_alloc ?_ _)); exact BK445.out), (by (with_reducible repeat (first | refine blk_drewN ?_ _ | refine blk_drew ?_ | refine blk_alloc ?_ _)); exact BK451.out), GW451.out, GE451.out, NB445_451.out, NB451_445.out, (by repeat (first | (with_reducible first | exact HB.out | apply below_alloc | apply pw_below_drewN | apply below_drew1 | refine below_set ?_ GE445.out | refine below_set ?_ GE451.out) | exact HB.out))⟩)
  rintro gb451 w20 ⟨hS_, h0_, h1_, h2_, h3_, h4_, h5_, h6_⟩
  have n0_ : Aside0 (w20.heap[gb445]? = some (.cells #[.int .i64 t441, .int .i64 t442, .int .i64 t443] 23 (0, 0))) := ⟨h0_⟩
  have n1_ : Aside0 (w20.heap[gb451]? = some (.cells #[.int .i64 0, .int .i64 0, .int .i64 0] 23 (0, 0))) := ⟨h1_⟩
  have n2_ : Aside0 (w.heap.size ≤ gb451) := ⟨h2_⟩
  have n3_ : Aside0 (w.heap.size ≤ gb451) := ⟨h3_⟩
  have n4_ : Aside0 (gb445 ≠ gb451) := ⟨h4_⟩
  have n5_ : Aside0 (gb451 ≠ gb445) := ⟨h5_⟩
  have n6_ : Aside0 (Below w.heap.size w w20) := ⟨h6_⟩
  clear BK445
  clear HB
  clear h0_ h1_ h2_ h3_ h4_ h5_ h6_
  have BK445 := n0_
  have BK451 := n1_
  have GW451 := n2_
  have GE451 := n3_
  have NB445_451 := n4_
  have NB451_445 := n5_
  have HB := n6_
  clear n0_ n1_ n2_ n3_ n4_ n5_ n6_
  have hHeld : w20.cell? ⟨gb445, 0, none⟩ = some (.int .i64 t441) ∧ w20.cell? ⟨gb445, 1, none⟩ = some (.int .i64 t442) ∧ w20.cell? ⟨gb445, 2, none⟩ = some (.int .i64 t443) := hS_
  refine norm_ (a' := ?_) ?_ ?_
  rotate_left
  · simp only [putAll, Act.put, List.setIfInBounds_toArray, List.set_cons_zero, List.set_cons_succ]
    rfl
  refine one_ (i := 8) (N := none) #[true, true, true, true, true, true, true, true, true, false] rfl rfl (one_of HT_.out (by kernel_rfl)) (by decide) (fun K hK => ?_)
  have hs21 : w20.cell? ⟨gb451, 0, none⟩ = some (.int .i64 0) := (blk_cell BK451.out 0).trans rfl
  have hfs21 := blk_frozen BK451.out 0
  have hns21_0 := NB445_451.out
  have hms21_0 := NB451_445.out
  have hs22 : w20.cell? ⟨gb451, 1, none⟩ = some (.int .i64 0) := (blk_cell BK451.out 1).trans rfl
  have hfs22 := blk_frozen BK451.out 1
  have hns22_0 := NB445_451.out
  have hms22_0 := NB451_445.out
  have hs23 : w20.cell? ⟨gb451, 2, none⟩ = some (.int .i64 0) := (blk_cell BK451.out 2).trans rfl
  have hfs23 := blk_frozen BK451.out 2
  have hns23_0 := NB445_451.out
  have hms23_0 := NB451_445.out
  refine skip_ (w1 := ?_) (by rfl) rfl ?_ ?_
  rotate_left
  · go_simp
    rfl
  refine hK.out _ _ ⟨((cell_far (p := ⟨gb451, _, none⟩) NB445_451.out _).trans (((cell_far (p := ⟨gb451, _, none⟩) NB445_451.out _).trans (((cell_far (p := ⟨gb451, _, none⟩) NB445_451.out _).trans (hHeld.1)))))), ((cell_far (p := ⟨gb451, _, none⟩) NB445_451.out _).trans (((cell_far (p := ⟨gb451, _, none⟩) NB445_451.out _).trans (((cell_far (p := ⟨gb451, _, none⟩) NB445_451.out _).trans (hHeld.2.1)))))), ((cell_far (p := ⟨gb451, _, none⟩) NB445_451.out _).trans (((cell_far (p := ⟨gb451, _, none⟩) NB445_451.out _).trans (((cell_far (p := ⟨gb451, _, none⟩) NB445_451.out _).trans (hHeld.2.2))))))⟩ (fun hHeld => ?_)
  clear hK K
  refine pure_ (i := 9) (N := some 11) (v := ?_) (a' := ?_) #[true, true, true, true, true, true, true, true, true, true] rfl rfl (any_of HT_.out (by kernel_rfl)) (fun _ _ _ h => h) (Or.inl ⟨by rfl, ?_⟩) ?_ ?_
  rotate_left
  · intro w'
    go_simp
    with_reducible rfl
  rotate_left
  · simp only [Act.put, List.setIfInBounds_toArray, List.set_cons_zero, List.set_cons_succ, i64_w, i32_w]
    rfl
  refine done_ (done_of HT_.out (by kernel_rfl)) ?_
  have hnb24 := NB451_445.out
  have hnc24 := NB445_451.out
  have hcz25_0 : w20.cell? ⟨gb451, 0, none⟩ = some (.int .i64 0) := (blk_cell BK451.out 0).trans rfl
  have hcz25_1 : w20.cell? ⟨gb451, 1, none⟩ = some (.int .i64 0) := (blk_cell BK451.out 1).trans rfl
  have hcz25_2 : w20.cell? ⟨gb451, 2, none⟩ = some (.int .i64 0) := (blk_cell BK451.out 2).trans rfl
  have hfz25_0 := blk_frozen BK451.out 0
  have hfz25_1 := blk_frozen BK451.out 1
  have hfz25_2 := blk_frozen BK451.out 2
  go_upto_region 7 with (first | ((with_reducible refine gate_callee (f := 27) rfl ?_); refine goesL_ (some 35) rfl rfl Try.func27 (by kernel_rfl) rfl #[.agg #[.int .i64 t447, .int .i64 t448, .int .i64 t449]] rfl (by (try simp only [List.map_toArray, List.map_cons, List.map_nil]); first | done | rfl | (simp only [List.length_drop, List.length_take]; rfl)) ?_; (with_reducible refine (panel_Left.calls k t447 t448 t449 t452 t453 _ A8.out).mono ?_); rintro e w26 ⟨rfl, hb⟩; refine ⟨_, rfl, ?_⟩; have n0_ := Aside0.mk (blk_below (g := gb445) (o := .cells #[.int .i64 t441, .int .i64 t442, .int .i64 t443] 23 (0, 0)) (by (with_reducible repeat (first | refine blk_drewN ?_ _ | refine blk_drew ?_ | refine blk_alloc ?_ _)); refine blk_far ?_ NB445_451.out _; (with_reducible repeat (first | refine blk_drewN ?_ _ | refine blk_drew ?_ | refine blk_alloc ?_ _)); refine blk_far ?_ NB445_451.out _; (with_reducible repeat (first | refine blk_drewN ?_ _ | refine blk_drew ?_ | refine blk_alloc ?_ _)); refine blk_far ?_ NB445_451.out _; (with_reducible repeat (first | refine blk_drewN ?_ _ | refine blk_drew ?_ | refine blk_alloc ?_ _)); exact BK445.out) hb); have n1_ := Aside0.mk (blk_below (g := gb451) (o := .cells #[.int .i64 t447, .int .i64 t448, .int .i64 t449] 23 (0, 0)) (by (with_reducible repeat (first | refine blk_drewN ?_ _ | refine blk_drew ?_ | refine blk_alloc ?_ _)); refine blk_put (cs := #[.int .i64 t447, .int .i64 t448, .int .i64 0]) ?_ 2 _ rfl; (with_reducible repeat (first | refine blk_drewN ?_ _ | refine blk_drew ?_ | refine blk_alloc ?_ _)); refine blk_put (cs := #[.int .i64 t447, .int .i64 0, .int .i64 0]) ?_ 1 _ rfl; (with_reducible repeat (first | refine blk_drewN ?_ _ | refine blk_drew ?_ | refine blk_alloc ?_ _)); refine blk_put (cs := #[.int .i64 0, .int .i64 0, .int .i64 0]) ?_ 0 _ rfl; (with_reducible repeat (first | refine blk_drewN ?_ _ | refine blk_drew ?_ | refine blk_alloc ?_ _)); exact BK451.out) hb); have n2_ := Aside0.mk (below_step (by repeat (first | (with_reducible first | exact HB.out | apply below_alloc | apply pw_below_drewN | apply below_drew1 | refine below_set ?_ GE445.out | refine below_set ?_ GE451.out) | exact HB.out)) hb); clear BK445; clear BK451; clear HB; have BK445 := n0_; have BK451 := n1_; have HB := n2_; clear n0_ n1_ n2_; (try clear hb); (try clear hb2); (try clear hk); (try clear hi); have hcz27_0 : w26.cell? ⟨gb451, 0, none⟩ = some (.int .i64 t447) := (blk_cell BK451.out 0).trans rfl; have hcz27_1 : w26.cell? ⟨gb451, 1, none⟩ = some (.int .i64 t448) := (blk_cell BK451.out 1).trans rfl; have hcz27_2 : w26.cell? ⟨gb451, 2, none⟩ = some (.int .i64 t449) := (blk_cell BK451.out 2).trans rfl; have hfz27_0 := blk_frozen BK451.out 0; have hfz27_1 := blk_frozen BK451.out 1; have hfz27_2 := blk_frozen BK451.out 2) | ((with_reducible refine gate_callee (f := 28) rfl ?_); refine goesL_ (some 40) rfl rfl Try.func28 (by kernel_rfl) rfl #[.agg #[.int .i64 t447, .int .i64 t448, .int .i64 t449]] rfl (by (try simp only [List.map_toArray, List.map_cons, List.map_nil]); first | done | rfl | (simp only [List.length_drop, List.length_take]; rfl)) ?_; (with_reducible refine (panel_Step.calls k t447 t448 t449 t454 t455 t456 t457 t458 _ A9.out).mono ?_); rintro e w28 ⟨rfl, hb⟩; refine ⟨_, rfl, ?_⟩; have n0_ := Aside0.mk (blk_below (g := gb445) (o := .cells #[.int .i64 t441, .int .i64 t442, .int .i64 t443] 23 (0, 0)) (by (with_reducible repeat (first | refine blk_drewN ?_ _ | refine blk_drew ?_ | refine blk_alloc ?_ _)); exact BK445.out) hb); have n1_ := Aside0.mk (blk_below (g := gb451) (o := .cells #[.int .i64 t447, .int .i64 t448, .int .i64 t449] 23 (0, 0)) (by (with_reducible repeat (first | refine blk_drewN ?_ _ | refine blk_drew ?_ | refine blk_alloc ?_ _)); exact BK451.out) hb); have n2_ := Aside0.mk (below_step (by repeat (first | (with_reducible first | exact HB.out | apply below_alloc | apply pw_below_drewN | apply below_drew1 | refine below_set ?_ GE445.out | refine below_set ?_ GE451.out) | exact HB.out)) hb); clear BK445; clear BK451; clear HB; have BK445 := n0_; have BK451 := n1_; have HB := n2_; clear n0_ n1_ n2_; (try clear hb); (try clear hb2); (try clear hk); (try clear hi)) | ((with_reducible refine gate_dst (N := 14) rfl ?_); (try (refine gate_guard (by rfl) ?_; dsimp only)); refine box_event ?hg (N := 14) ?hd (cs := #[.int .i64 0, .int .i64 0, .int .i64 0]) (t := 23) ?hr ?_; (case hd => rfl); (case hg => rfl); (case hr => first | (go_simp; done) | (go_simp; rfl)); intro gb459 hg w29 hbox hb; have n0_ := Aside0.mk (blk_below (g := gb445) (o := .cells #[.int .i64 t441, .int .i64 t442, .int .i64 t443] 23 (0, 0)) (by (with_reducible repeat (first | refine blk_drewN ?_ _ | refine blk_drew ?_ | refine blk_alloc ?_ _)); exact BK445.out) hb); have n1_ := Aside0.mk (blk_below (g := gb451) (o := .cells #[.int .i64 t447, .int .i64 t448, .int .i64 t449] 23 (0, 0)) (by (with_reducible repeat (first | refine blk_drewN ?_ _ | refine blk_drew ?_ | refine blk_alloc ?_ _)); exact BK451.out) hb); have n2_ := Aside0.mk (below_step (by repeat (first | (with_reducible first | exact HB.out | apply below_alloc | apply pw_below_drewN | apply below_drew1 | refine below_set ?_ GE445.out | refine below_set ?_ GE451.out) | exact HB.out)) hb); have n3_ := Aside0.mk (hbox); have n4_ := Aside0.mk ((by rw [hg]; exact (below_size (by repeat (first | (with_reducible first | exact HB.out | apply below_alloc | apply pw_below_drewN | apply below_drew1 | refine below_set ?_ GE445.out | refine below_set ?_ GE451.out) | exact HB.out))) : w.heap.size ≤ gb459)); have n5_ := Aside0.mk ((by rw [hg]; exact (below_size (by repeat (first | (with_reducible first | exact HB.out | apply below_alloc | apply pw_below_drewN | apply below_drew1 | refine below_set ?_ GE445.out | refine below_set ?_ GE451.out) | exact HB.out))) : w.heap.size ≤ gb459)); have n6_ := Aside0.mk ((by rw [hg]; exact Nat.ne_of_lt (blk_lt (g := gb445) (o := .cells #[.int .i64 t441, .int .i64 t442, .int .i64 t443] 23 (0, 0)) (by (with_reducible repeat (first | refine blk_drewN ?_ _ | refine blk_drew ?_ | refine blk_alloc ?_ _)); exact BK445.out)) : gb445 ≠ gb459)); have n7_ := Aside0.mk ((by rw [hg]; exact Nat.ne_of_gt (blk_lt (g := gb445) (o := .cells #[.int .i64 t441, .int .i64 t442, .int .i64 t443] 23 (0, 0)) (by (with_reducible repeat (first | refine blk_drewN ?_ _ | refine blk_drew ?_ | refine blk_alloc ?_ _)); exact BK445.out)) : gb459 ≠ gb445)); have n8_ := Aside0.mk ((by rw [hg]; exact Nat.ne_of_lt (blk_lt (g := gb451) (o := .cells #[.int .i64 t447, .int .i64 t448, .int .i64 t449] 23 (0, 0)) (by (with_reducible repeat (first | refine blk_drewN ?_ _ | refine blk_drew ?_ | refine blk_alloc ?_ _)); exact BK451.out)) : gb451 ≠ gb459)); have n9_ := Aside0.mk ((by rw [hg]; exact Nat.ne_of_gt (blk_lt (g := gb451) (o := .cells #[.int .i64 t447, .int .i64 t448, .int .i64 t449] 23 (0, 0)) (by (with_reducible repeat (first | refine blk_drewN ?_ _ | refine blk_drew ?_ | refine blk_alloc ?_ _)); exact BK451.out)) : gb459 ≠ gb451)); clear BK445; clear BK451; clear HB; have BK445 := n0_; have BK451 := n1_; have HB := n2_; have BK459 := n3_; have GW459 := n4_; have GE459 := n5_; have NB445_459 := n6_; have NB459_445 := n7_; have NB451_459 := n8_; have NB459_451 := n9_; clear n0_ n1_ n2_ n3_ n4_ n5_ n6_ n7_ n8_ n9_; clear hb hbox hg; have hnb30 := NB459_445.out; have hnc30 := NB445_459.out; have hnb31 := NB459_451.out; have hnc31 := NB451_459.out; have hcz32_0 : w29.cell? ⟨gb459, 0, none⟩ = some (.int .i64 0) := (blk_cell BK459.out 0).trans rfl; have hcz32_1 : w29.cell? ⟨gb459, 1, none⟩ = some (.int .i64 0) := (blk_cell BK459.out 1).trans rfl; have hcz32_2 : w29.cell? ⟨gb459, 2, none⟩ = some (.int .i64 0) := (blk_cell BK459.out 2).trans rfl; have hfz32_0 := blk_frozen BK459.out 0; have hfz32_1 := blk_frozen BK459.out 1; have hfz32_2 := blk_frozen BK459.out 2) | ((with_reducible refine gate_callee (f := 27) rfl ?_); refine goesL_ (some 46) rfl rfl Try.func27 (by kernel_rfl) rfl #[.agg #[.int .i64 t454, .int .i64 t455, .int .i64 t456]] rfl (by (try simp only [List.map_toArray, List.map_cons, List.map_nil]); first | done | rfl | (simp only [List.length_drop, List.length_take]; rfl)) ?_; (with_reducible refine (panel_Left.calls k t454 t455 t456 t460 t461 _ A10.out).mono ?_); rintro e w33 ⟨rfl, hb⟩; refine ⟨_, rfl, ?_⟩; have n0_ := Aside0.mk (blk_below (g := gb445) (o := .cells #[.int .i64 t441, .int .i64 t442, .int .i64 t443] 23 (0, 0)) (by (with_reducible repeat (first | refine blk_drewN ?_ _ | refine blk_drew ?_ | refine blk_alloc ?_ _)); refine blk_far ?_ NB445_459.out _; (with_reducible repeat (first | refine blk_drewN ?_ _ | refine blk_drew ?_ | refine blk_alloc ?_ _)); refine blk_far ?_ NB445_459.out _; (with_reducible repeat (first | refine blk_drewN ?_ _ | refine blk_drew ?_ | refine blk_alloc ?_ _)); refine blk_far ?_ NB445_459.out _; (with_reducible repeat (first | refine blk_drewN ?_ _ | refine blk_drew ?_ | refine blk_alloc ?_ _)); exact BK445.out) hb); have n1_ := Aside0.mk (blk_below (g := gb451) (o := .cells #[.int .i64 t447, .int .i64 t448, .int .i64 t449] 23 (0, 0)) (by (with_reducible repeat (first | refine blk_drewN ?_ _ | refine blk_drew ?_ | refine blk_alloc ?_ _)); refine blk_far ?_ NB451_459.out _; (with_reducible repeat (first | refine blk_drewN ?_ _ | refine blk_drew ?_ | refine blk_alloc ?_ _)); refine blk_far ?_ NB451_459.out _; (with_reducible repeat (first | refine blk_drewN ?_ _ | refine blk_drew ?_ | refine blk_alloc ?_ _)); refine blk_far ?_ NB451_459.out _; (with_reducible repeat (first | refine blk_drewN ?_ _ | refine blk_drew ?_ | refine blk_alloc ?_ _)); exact BK451.out) hb); have n2_ := Aside0.mk (blk_below (g := gb459) (o := .cells #[.int .i64 t454, .int .i64 t455, .int .i64 t456] 23 (0, 0)) (by (with_reducible repeat (first | refine blk_drewN ?_ _ | refine blk_drew ?_ | refine blk_alloc ?_ _)); refine blk_put (cs := #[.int .i64 t454, .int .i64 t455, .int .i64 0]) ?_ 2 _ rfl; (with_reducible repeat (first | refine blk_drewN ?_ _ | refine blk_drew ?_ | refine blk_alloc ?_ _)); refine blk_put (cs := #[.int .i64 t454, .int .i64 0, .int .i64 0]) ?_ 1 _ rfl; (with_reducible repeat (first | refine blk_drewN ?_ _ | refine blk_drew ?_ | refine blk_alloc ?_ _)); refine blk_put (cs := #[.int .i64 0, .int .i64 0, .int .i64 0]) ?_ 0 _ rfl; (with_reducible repeat (first | refine blk_drewN ?_ _ | refine blk_drew ?_ | refine blk_alloc ?_ _)); exact BK459.out) hb); have n3_ := Aside0.mk (below_step (by repeat (first | (with_reducible first | exact HB.out | apply below_alloc | apply pw_below_drewN | apply below_drew1 | refine below_set ?_ GE445.out | refine below_set ?_ GE451.out | refine below_set ?_ GE459.out) | exact HB.out)) hb); clear BK445; clear BK451; clear BK459; clear HB; have BK445 := n0_; have BK451 := n1_; have BK459 := n2_; have HB := n3_; clear n0_ n1_ n2_ n3_; (try clear hb); (try clear hb2); (try clear hk); (try clear hi)))
  (try simp only [Act.put, List.setIfInBounds_toArray, List.set_cons_zero, List.set_cons_succ])
  go_cut [83] (fun v83 wc => ∃ (kq : Nat) (x83_10 : Bool), v83 = .bool x83_10 ∧ Aside0 (tipstafflaw16_PanelKeeps.j0 kq t440 t452 t457 t460 x83_10 t447 t448 t449 t454 t455 t456 = some r) ∧ Aside0 (kq ≤ k) ∧ Aside0 (wc.heap[gb445]? = some (.cells #[.int .i64 t441, .int .i64 t442, .int .i64 t443] 23 (0, 0))) ∧ Aside0 (wc.heap[gb451]? = some (.cells #[.int .i64 t447, .int .i64 t448, .int .i64 t449] 23 (0, 0))) ∧ Aside0 (wc.heap[gb459]? = some (.cells #[.int .i64 t454, .int .i64 t455, .int .i64 t456] 23 (0, 0))) ∧ Aside0 (Below w.heap.size w wc))
  case first =>
    have H := HC11.out
    clear HC11
    by_cases c34 : t444 = true
    · subst c34
      have H1 := H
      rw [if_pos rfl] at H1
      clear H
      have H := H1
      clear H1
      by_cases c35 : t450 = 0
      · rw [if_pos c35] at H
        have c35b0 : (t450 == 0) = true := beq_iff_eq.mpr c35
        have c35b1 : (t450 != 0) = false := bne_eq_false_iff_eq.mpr c35
        clear c35
        (first | rw [c35b0] | (simp only [i64_w, i32_w]; rw [c35b0]) | skip)
        by_cases c36 : t453 = 0
        · rw [if_pos c36] at H
          have c36b0 : (t453 == 0) = true := beq_iff_eq.mpr c36
          have c36b1 : (t453 != 0) = false := bne_eq_false_iff_eq.mpr c36
          clear c36
          by_cases c37 : t458 = 0
          · rw [if_pos c37] at H
            have c37b0 : (t458 == 0) = true := beq_iff_eq.mpr c37
            have c37b1 : (t458 != 0) = false := bne_eq_false_iff_eq.mpr c37
            clear c37
            by_cases c38 : t461 = 0
            · rw [if_pos c38] at H
              have c38b0 : (t461 == 0) = true := beq_iff_eq.mpr c38
              have c38b1 : (t461 != 0) = false := bne_eq_false_iff_eq.mpr c38
              clear c38
              replace H := Option.bind_eq_some_iff.mp H
              obtain ⟨t462, A390, H⟩ := H
              replace H : (if t462 = 0 then ((panel_Check.f k t454 t455 t456).bind fun t463 => (if t463 = 0 then (tipstafflaw16_PanelKeeps.j0 k t440 t452 t457 t460 (t447 != t441) t447 t448 t449 t454 t455 t456) else (tipstafflaw16_PanelKeeps.j0 k t440 t452 t457 t460 true t447 t448 t449 t454 t455 t456))) else (tipstafflaw16_PanelKeeps.j0 k t440 t452 t457 t460 true t447 t448 t449 t454 t455 t456)) = some r := H
              have A39 := Aside0.mk A390
              clear A390
              by_cases c40 : t462 = 0
              · rw [if_pos c40] at H
                have c40b0 : (t462 == 0) = true := beq_iff_eq.mpr c40
                have c40b1 : (t462 != 0) = false := bne_eq_false_iff_eq.mpr c40
                clear c40
                replace H := Option.bind_eq_some_iff.mp H
                obtain ⟨t463, A410, H⟩ := H
                replace H : (if t463 = 0 then (tipstafflaw16_PanelKeeps.j0 k t440 t452 t457 t460 (t447 != t441) t447 t448 t449 t454 t455 t456) else (tipstafflaw16_PanelKeeps.j0 k t440 t452 t457 t460 true t447 t448 t449 t454 t455 t456)) = some r := H
                have A41 := Aside0.mk A410
                clear A410
                by_cases c42 : t463 = 0
                · rw [if_pos c42] at H
                  have c42b0 : (t463 == 0) = true := beq_iff_eq.mpr c42
                  have c42b1 : (t463 != 0) = false := bne_eq_false_iff_eq.mpr c42
                  clear c42
                  have H' := Aside0.mk H
                  clear H
                  have hnb43 := NB451_445.out
                  have hnc43 := NB445_451.out
                  have hnb44 := NB451_459.out
                  have hnc44 := NB459_451.out
                  have hcz45_0 : w33.cell? ⟨gb451, 0, none⟩ = some (.int .i64 t447) := (blk_cell BK451.out 0).trans rfl
                  have hcz45_1 : w33.cell? ⟨gb451, 1, none⟩ = some (.int .i64 t448) := (blk_cell BK451.out 1).trans rfl
                  have hcz45_2 : w33.cell? ⟨gb451, 2, none⟩ = some (.int .i64 t449) := (blk_cell BK451.out 2).trans rfl
                  have hfz45_0 := blk_frozen BK451.out 0
                  have hfz45_1 := blk_frozen BK451.out 1
                  have hfz45_2 := blk_frozen BK451.out 2
                  go_wp2_with (first | (go_at_call 24; (with_reducible refine (panel_Check.calls k t447 t448 t449 t462 _ A39.out).mono ?_); rintro e w46 ⟨rfl, hb⟩; have n0_ := Aside0.mk (blk_below (g := gb445) (o := .cells #[.int .i64 t441, .int .i64 t442, .int .i64 t443] 23 (0, 0)) (by (with_reducible repeat (first | refine blk_drewN ?_ _ | refine blk_drew ?_ | refine blk_alloc ?_ _)); exact BK445.out) hb); have n1_ := Aside0.mk (blk_below (g := gb451) (o := .cells #[.int .i64 t447, .int .i64 t448, .int .i64 t449] 23 (0, 0)) (by (with_reducible repeat (first | refine blk_drewN ?_ _ | refine blk_drew ?_ | refine blk_alloc ?_ _)); exact BK451.out) hb); have n2_ := Aside0.mk (blk_below (g := gb459) (o := .cells #[.int .i64 t454, .int .i64 t455, .int .i64 t456] 23 (0, 0)) (by (with_reducible repeat (first | refine blk_drewN ?_ _ | refine blk_drew ?_ | refine blk_alloc ?_ _)); exact BK459.out) hb); have n3_ := Aside0.mk (below_step (by repeat (first | (with_reducible first | exact HB.out | apply below_alloc | apply pw_below_drewN | apply below_drew1 | refine below_set ?_ GE445.out | refine below_set ?_ GE451.out | refine below_set ?_ GE459.out) | exact HB.out)) hb); clear BK445; clear BK451; clear BK459; clear HB; have BK445 := n0_; have BK451 := n1_; have BK459 := n2_; have HB := n3_; clear n0_ n1_ n2_ n3_; (try clear hb); (try clear hb2); (try clear hk); (try clear hi); have hnb47 := NB459_445.out; have hnc47 := NB445_459.out; have hcz48_0 : w46.cell? ⟨gb459, 0, none⟩ = some (.int .i64 t454) := (blk_cell BK459.out 0).trans rfl; have hcz48_1 : w46.cell? ⟨gb459, 1, none⟩ = some (.int .i64 t455) := (blk_cell BK459.out 1).trans rfl; have hcz48_2 : w46.cell? ⟨gb459, 2, none⟩ = some (.int .i64 t456) := (blk_cell BK459.out 2).trans rfl; have hfz48_0 := blk_frozen BK459.out 0; have hfz48_1 := blk_frozen BK459.out 1; have hfz48_2 := blk_frozen BK459.out 2) | (go_at_call 24; (with_reducible refine (panel_Check.calls k t454 t455 t456 t463 _ A41.out).mono ?_); rintro e w49 ⟨rfl, hb⟩; have n0_ := Aside0.mk (blk_below (g := gb445) (o := .cells #[.int .i64 t441, .int .i64 t442, .int .i64 t443] 23 (0, 0)) (by (with_reducible repeat (first | refine blk_drewN ?_ _ | refine blk_drew ?_ | refine blk_alloc ?_ _)); exact BK445.out) hb); have n1_ := Aside0.mk (blk_below (g := gb451) (o := .cells #[.int .i64 t447, .int .i64 t448, .int .i64 t449] 23 (0, 0)) (by (with_reducible repeat (first | refine blk_drewN ?_ _ | refine blk_drew ?_ | refine blk_alloc ?_ _)); exact BK451.out) hb); have n2_ := Aside0.mk (blk_below (g := gb459) (o := .cells #[.int .i64 t454, .int .i64 t455, .int .i64 t456] 23 (0, 0)) (by (with_reducible repeat (first | refine blk_drewN ?_ _ | refine blk_drew ?_ | refine blk_alloc ?_ _)); exact BK459.out) hb); have n3_ := Aside0.mk (below_step (by repeat (first | (with_reducible first | exact HB.out | apply below_alloc | apply pw_below_drewN | apply below_drew1 | refine below_set ?_ GE445.out | refine below_set ?_ GE451.out | refine below_set ?_ GE459.out) | exact HB.out)) hb); clear BK445; clear BK451; clear BK459; clear HB; have BK445 := n0_; have BK451 := n1_; have BK459 := n2_; have HB := n3_; clear n0_ n1_ n2_ n3_; (try clear hb); (try clear hb2); (try clear hk); (try clear hi); have hcz50_0 : w49.cell? ⟨gb451, 0, none⟩ = some (.int .i64 t447) := (blk_cell BK451.out 0).trans rfl; have hcz50_1 : w49.cell? ⟨gb451, 1, none⟩ = some (.int .i64 t448) := (blk_cell BK451.out 1).trans rfl; have hcz50_2 : w49.cell? ⟨gb451, 2, none⟩ = some (.int .i64 t449) := (blk_cell BK451.out 2).trans rfl; have hfz50_0 := blk_frozen BK451.out 0; have hfz50_1 := blk_frozen BK451.out 1; have hfz50_2 := blk_frozen BK451.out 2; have hcz51_0 : w49.cell? ⟨gb445, 0, none⟩ = some (.int .i64 t441) := (blk_cell BK445.out 0).trans rfl; have hcz51_1 : w49.cell? ⟨gb445, 1, none⟩ = some (.int .i64 t442) := (blk_cell BK445.out 1).trans rfl; have hcz51_2 : w49.cell? ⟨gb445, 2, none⟩ = some (.int .i64 t443) := (blk_cell BK445.out 2).trans rfl; have hfz51_0 := blk_frozen BK445.out 0; have hfz51_1 := blk_frozen BK445.out 1; have hfz51_2 := blk_frozen BK445.out 2))
                  go_meet
                  case rel => exact ⟨_, ((t447 != t441)), (by first | rfl | (simp; done) | (simp [*]; done)), H', ⟨by first | omega | exact Nat.le_refl _⟩, ⟨by (with_reducible repeat (first | refine blk_drewN ?_ _ | refine blk_drew ?_ | refine blk_alloc ?_ _)); exact BK445.out⟩, ⟨by (with_reducible repeat (first | refine blk_drewN ?_ _ | refine blk_drew ?_ | refine blk_alloc ?_ _)); exact BK451.out⟩, ⟨by (with_reducible repeat (first | refine blk_drewN ?_ _ | refine blk_drew ?_ | refine blk_alloc ?_ _)); exact BK459.out⟩, ⟨by repeat (first | (with_reducible first | exact HB.out | apply below_alloc | apply pw_below_drewN | apply below_drew1 | refine below_set ?_ GE445.out | refine below_set ?_ GE451.out | refine below_set ?_ GE459.out) | exact HB.out)⟩⟩
                · rw [if_neg c42] at H
                  have c42b0 : (t463 == 0) = false := beq_eq_false_iff_ne.mpr c42
                  have c42b1 : (t463 != 0) = true := bne_iff_ne.mpr c42
                  have H' := Aside0.mk H
                  clear H
                  have hnb52 := NB451_445.out
                  have hnc52 := NB445_451.out
                  have hnb53 := NB451_459.out
                  have hnc53 := NB459_451.out
                  have hcz54_0 : w33.cell? ⟨gb451, 0, none⟩ = some (.int .i64 t447) := (blk_cell BK451.out 0).trans rfl
                  have hcz54_1 : w33.cell? ⟨gb451, 1, none⟩ = some (.int .i64 t448) := (blk_cell BK451.out 1).trans rfl
                  have hcz54_2 : w33.cell? ⟨gb451, 2, none⟩ = some (.int .i64 t449) := (blk_cell BK451.out 2).trans rfl
                  have hfz54_0 := blk_frozen BK451.out 0
                  have hfz54_1 := blk_frozen BK451.out 1
                  have hfz54_2 := blk_frozen BK451.out 2
                  go_wp2_with (first | (go_at_call 24; (with_reducible refine (panel_Check.calls k t447 t448 t449 t462 _ A39.out).mono ?_); rintro e w55 ⟨rfl, hb⟩; have n0_ := Aside0.mk (blk_below (g := gb445) (o := .cells #[.int .i64 t441, .int .i64 t442, .int .i64 t443] 23 (0, 0)) (by (with_reducible repeat (first | refine blk_drewN ?_ _ | refine blk_drew ?_ | refine blk_alloc ?_ _)); exact BK445.out) hb); have n1_ := Aside0.mk (blk_below (g := gb451) (o := .cells #[.int .i64 t447, .int .i64 t448, .int .i64 t449] 23 (0, 0)) (by (with_reducible repeat (first | refine blk_drewN ?_ _ | refine blk_drew ?_ | refine blk_alloc ?_ _)); exact BK451.out) hb); have n2_ := Aside0.mk (blk_below (g := gb459) (o := .cells #[.int .i64 t454, .int .i64 t455, .int .i64 t456] 23 (0, 0)) (by (with_reducible repeat (first | refine blk_drewN ?_ _ | refine blk_drew ?_ | refine blk_alloc ?_ _)); exact BK459.out) hb); have n3_ := Aside0.mk (below_step (by repeat (first | (with_reducible first | exact HB.out | apply below_alloc | apply pw_below_drewN | apply below_drew1 | refine below_set ?_ GE445.out | refine below_set ?_ GE451.out | refine below_set ?_ GE459.out) | exact HB.out)) hb); clear BK445; clear BK451; clear BK459; clear HB; have BK445 := n0_; have BK451 := n1_; have BK459 := n2_; have HB := n3_; clear n0_ n1_ n2_ n3_; (try clear hb); (try clear hb2); (try clear hk); (try clear hi); have hnb56 := NB459_445.out; have hnc56 := NB445_459.out; have hcz57_0 : w55.cell? ⟨gb459, 0, none⟩ = some (.int .i64 t454) := (blk_cell BK459.out 0).trans rfl; have hcz57_1 : w55.cell? ⟨gb459, 1, none⟩ = some (.int .i64 t455) := (blk_cell BK459.out 1).trans rfl; have hcz57_2 : w55.cell? ⟨gb459, 2, none⟩ = some (.int .i64 t456) := (blk_cell BK459.out 2).trans rfl; have hfz57_0 := blk_frozen BK459.out 0; have hfz57_1 := blk_frozen BK459.out 1; have hfz57_2 := blk_frozen BK459.out 2) | (go_at_call 24; (with_reducible refine (panel_Check.calls k t454 t455 t456 t463 _ A41.out).mono ?_); rintro e w58 ⟨rfl, hb⟩; have n0_ := Aside0.mk (blk_below (g := gb445) (o := .cells #[.int .i64 t441, .int .i64 t442, .int .i64 t443] 23 (0, 0)) (by (with_reducible repeat (first | refine blk_drewN ?_ _ | refine blk_drew ?_ | refine blk_alloc ?_ _)); exact BK445.out) hb); have n1_ := Aside0.mk (blk_below (g := gb451) (o := .cells #[.int .i64 t447, .int .i64 t448, .int .i64 t449] 23 (0, 0)) (by (with_reducible repeat (first | refine blk_drewN ?_ _ | refine blk_drew ?_ | refine blk_alloc ?_ _)); exact BK451.out) hb); have n2_ := Aside0.mk (blk_below (g := gb459) (o := .cells #[.int .i64 t454, .int .i64 t455, .int .i64 t456] 23 (0, 0)) (by (with_reducible repeat (first | refine blk_drewN ?_ _ | refine blk_drew ?_ | refine blk_alloc ?_ _)); exact BK459.out) hb); have n3_ := Aside0.mk (below_step (by repeat (first | (with_reducible first | exact HB.out | apply below_alloc | apply pw_below_drewN | apply below_drew1 | refine below_set ?_ GE445.out | refine below_set ?_ GE451.out | refine below_set ?_ GE459.out) | exact HB.out)) hb); clear BK445; clear BK451; clear BK459; clear HB; have BK445 := n0_; have BK451 := n1_; have BK459 := n2_; have HB := n3_; clear n0_ n1_ n2_ n3_; (try clear hb); (try clear hb2); (try clear hk); (try clear hi)))
                  go_meet
                  case rel => exact ⟨_, (true), (by first | rfl | (simp; done) | (simp [*]; done)), H', ⟨by first | omega | exact Nat.le_refl _⟩, ⟨by (with_reducible repeat (first | refine blk_drewN ?_ _ | refine blk_drew ?_ | refine blk_alloc ?_ _)); exact BK445.out⟩, ⟨by (with_reducible repeat (first | refine blk_drewN ?_ _ | refine blk_drew ?_ | refine blk_alloc ?_ _)); exact BK451.out⟩, ⟨by (with_reducible repeat (first | refine blk_drewN ?_ _ | refine blk_drew ?_ | refine blk_alloc ?_ _)); exact BK459.out⟩, ⟨by repeat (first | (with_reducible first | exact HB.out | apply below_alloc | apply pw_below_drewN | apply below_drew1 | refine below_set ?_ GE445.out | refine below_set ?_ GE451.out | refine below_set ?_ GE459.out) | exact HB.out)⟩⟩
              · rw [if_neg c40] at H
                have c40b0 : (t462 == 0) = false := beq_eq_false_iff_ne.mpr c40
                have c40b1 : (t462 != 0) = true := bne_iff_ne.mpr c40
                have H' := Aside0.mk H
                clear H
                have hnb59 := NB451_445.out
                have hnc59 := NB445_451.out
                have hnb60 := NB451_459.out
                have hnc60 := NB459_451.out
                have hcz61_0 : w33.cell? ⟨gb451, 0, none⟩ = some (.int .i64 t447) := (blk_cell BK451.out 0).trans rfl
                have hcz61_1 : w33.cell? ⟨gb451, 1, none⟩ = some (.int .i64 t448) := (blk_cell BK451.out 1).trans rfl
                have hcz61_2 : w33.cell? ⟨gb451, 2, none⟩ = some (.int .i64 t449) := (blk_cell BK451.out 2).trans rfl
                have hfz61_0 := blk_frozen BK451.out 0
                have hfz61_1 := blk_frozen BK451.out 1
                have hfz61_2 := blk_frozen BK451.out 2
                go_wp2_with (first | (go_at_call 24; (with_reducible refine (panel_Check.calls k t447 t448 t449 t462 _ A39.out).mono ?_); rintro e w62 ⟨rfl, hb⟩; have n0_ := Aside0.mk (blk_below (g := gb445) (o := .cells #[.int .i64 t441, .int .i64 t442, .int .i64 t443] 23 (0, 0)) (by (with_reducible repeat (first | refine blk_drewN ?_ _ | refine blk_drew ?_ | refine blk_alloc ?_ _)); exact BK445.out) hb); have n1_ := Aside0.mk (blk_below (g := gb451) (o := .cells #[.int .i64 t447, .int .i64 t448, .int .i64 t449] 23 (0, 0)) (by (with_reducible repeat (first | refine blk_drewN ?_ _ | refine blk_drew ?_ | refine blk_alloc ?_ _)); exact BK451.out) hb); have n2_ := Aside0.mk (blk_below (g := gb459) (o := .cells #[.int .i64 t454, .int .i64 t455, .int .i64 t456] 23 (0, 0)) (by (with_reducible repeat (first | refine blk_drewN ?_ _ | refine blk_drew ?_ | refine blk_alloc ?_ _)); exact BK459.out) hb); have n3_ := Aside0.mk (below_step (by repeat (first | (with_reducible first | exact HB.out | apply below_alloc | apply pw_below_drewN | apply below_drew1 | refine below_set ?_ GE445.out | refine below_set ?_ GE451.out | refine below_set ?_ GE459.out) | exact HB.out)) hb); clear BK445; clear BK451; clear BK459; clear HB; have BK445 := n0_; have BK451 := n1_; have BK459 := n2_; have HB := n3_; clear n0_ n1_ n2_ n3_; (try clear hb); (try clear hb2); (try clear hk); (try clear hi)))
                go_meet
                case rel => exact ⟨_, (true), (by first | rfl | (simp; done) | (simp [*]; done)), H', ⟨by first | omega | exact Nat.le_refl _⟩, ⟨by (with_reducible repeat (first | refine blk_drewN ?_ _ | refine blk_drew ?_ | refine blk_alloc ?_ _)); exact BK445.out⟩, ⟨by (with_reducible repeat (first | refine blk_drewN ?_ _ | refine blk_drew ?_ | refine blk_alloc ?_ _)); exact BK451.out⟩, ⟨by (with_reducible repeat (first | refine blk_drewN ?_ _ | refine blk_drew ?_ | refine blk_alloc ?_ _)); exact BK459.out⟩, ⟨by repeat (first | (with_reducible first | exact HB.out | apply below_alloc | apply pw_below_drewN | apply below_drew1 | refine below_set ?_ GE445.out | refine below_set ?_ GE451.out | refine below_set ?_ GE459.out) | exact HB.out)⟩⟩
            · rw [if_neg c38] at H
              have c38b0 : (t461 == 0) = false := beq_eq_false_iff_ne.mpr c38
              have c38b1 : (t461 != 0) = true := bne_iff_ne.mpr c38
              have H' := Aside0.mk H
              clear H
              go_wp2
              go_meet
              case rel => exact ⟨_, (true), (by first | rfl | (simp; done) | (simp [*]; done)), H', ⟨by first | omega | exact Nat.le_refl _⟩, ⟨by (with_reducible repeat (first | refine blk_drewN ?_ _ | refine blk_drew ?_ | refine blk_alloc ?_ _)); exact BK445.out⟩, ⟨by (with_reducible repeat (first | refine blk_drewN ?_ _ | refine blk_drew ?_ | refine blk_alloc ?_ _)); exact BK451.out⟩, ⟨by (with_reducible repeat (first | refine blk_drewN ?_ _ | refine blk_drew ?_ | refine blk_alloc ?_ _)); exact BK459.out⟩, ⟨by repeat (first | (with_reducible first | exact HB.out | apply below_alloc | apply pw_below_drewN | apply below_drew1 | refine below_set ?_ GE445.out | refine below_set ?_ GE451.out | refine below_set ?_ GE459.out) | exact HB.out)⟩⟩
          · rw [if_neg c37] at H
            have c37b0 : (t458 == 0) = false := beq_eq_false_iff_ne.mpr c37
            have c37b1 : (t458 != 0) = true := bne_iff_ne.mpr c37
            have H' := Aside0.mk H
            clear H
            go_wp2
            go_meet
            case rel => exact ⟨_, (true), (by first | rfl | (simp; done) | (simp [*]; done)), H', ⟨by first | omega | exact Nat.le_refl _⟩, ⟨by (with_reducible repeat (first | refine blk_drewN ?_ _ | refine blk_drew ?_ | refine blk_alloc ?_ _)); exact BK445.out⟩, ⟨by (with_reducible repeat (first | refine blk_drewN ?_ _ | refine blk_drew ?_ | refine blk_alloc ?_ _)); exact BK451.out⟩, ⟨by (with_reducible repeat (first | refine blk_drewN ?_ _ | refine blk_drew ?_ | refine blk_alloc ?_ _)); exact BK459.out⟩, ⟨by repeat (first | (with_reducible first | exact HB.out | apply below_alloc | apply pw_below_drewN | apply below_drew1 | refine below_set ?_ GE445.out | refine below_set ?_ GE451.out | refine below_set ?_ GE459.out) | exact HB.out)⟩⟩
        · rw [if_neg c36] at H
          have c36b0 : (t453 == 0) = false := beq_eq_false_iff_ne.mpr c36
          have c36b1 : (t453 != 0) = true := bne_iff_ne.mpr c36
          have H' := Aside0.mk H
          clear H
          go_wp2
          go_meet
          case rel => exact ⟨_, (true), (by first | rfl | (simp; done) | (simp [*]; done)), H', ⟨by first | omega | exact Nat.le_refl _⟩, ⟨by (with_reducible repeat (first | refine blk_drewN ?_ _ | refine blk_drew ?_ | refine blk_alloc ?_ _)); exact BK445.out⟩, ⟨by (with_reducible repeat (first | refine blk_drewN ?_ _ | refine blk_drew ?_ | refine blk_alloc ?_ _)); exact BK451.out⟩, ⟨by (with_reducible repeat (first | refine blk_drewN ?_ _ | refine blk_drew ?_ | refine blk_alloc ?_ _)); exact BK459.out⟩, ⟨by repeat (first | (with_reducible first | exact HB.out | apply below_alloc | apply pw_below_drewN | apply below_drew1 | refine below_set ?_ GE445.out | refine below_set ?_ GE451.out | refine below_set ?_ GE459.out) | exact HB.out)⟩⟩
      · rw [if_neg c35] at H
        have c35b0 : (t450 == 0) = false := beq_eq_false_iff_ne.mpr c35
        have c35b1 : (t450 != 0) = true := bne_iff_ne.mpr c35
        (first | rw [c35b0] | (simp only [i64_w, i32_w]; rw [c35b0]) | skip)
        have H' := Aside0.mk H
        clear H
        go_wp2
        go_meet
        case rel => exact ⟨_, (true), (by first | rfl | (simp; done) | (simp [*]; done)), H', ⟨by first | omega | exact Nat.le_refl _⟩, ⟨by (with_reducible repeat (first | refine blk_drewN ?_ _ | refine blk_drew ?_ | refine blk_alloc ?_ _)); exact BK445.out⟩, ⟨by (with_reducible repeat (first | refine blk_drewN ?_ _ | refine blk_drew ?_ | refine blk_alloc ?_ _)); exact BK451.out⟩, ⟨by (with_reducible repeat (first | refine blk_drewN ?_ _ | refine blk_drew ?_ | refine blk_alloc ?_ _)); exact BK459.out⟩, ⟨by repeat (first | (with_reducible first | exact HB.out | apply below_alloc | apply pw_below_drewN | apply below_drew1 | refine below_set ?_ GE445.out | refine below_set ?_ GE451.out | refine below_set ?_ GE459.out) | exact HB.out)⟩⟩
    · replace c34 := Bool.eq_false_iff.mpr c34
      subst c34
      have H1 : (tipstafflaw16_PanelKeeps.j0 k t440 t452 t457 t460 true t447 t448 t449 t454 t455 t456) = some r := by rw [if_neg (show ¬ (false = true) by decide)] at H; exact H
      clear H
      have H := H1
      clear H1
      have H' := Aside0.mk H
      clear H
      go_wp2
      go_meet
      case rel => exact ⟨_, (true), (by first | rfl | (simp; done) | (simp [*]; done)), H', ⟨by first | omega | exact Nat.le_refl _⟩, ⟨by (with_reducible repeat (first | refine blk_drewN ?_ _ | refine blk_drew ?_ | refine blk_alloc ?_ _)); exact BK445.out⟩, ⟨by (with_reducible repeat (first | refine blk_drewN ?_ _ | refine blk_drew ?_ | refine blk_alloc ?_ _)); exact BK451.out⟩, ⟨by (with_reducible repeat (first | refine blk_drewN ?_ _ | refine blk_drew ?_ | refine blk_alloc ?_ _)); exact BK459.out⟩, ⟨by repeat (first | (with_reducible first | exact HB.out | apply below_alloc | apply pw_below_drewN | apply below_drew1 | refine below_set ?_ GE445.out | refine below_set ?_ GE451.out | refine below_set ?_ GE459.out) | exact HB.out)⟩⟩
  case rest =>
    clear HC11
    try clear c1
    try clear c2
    try clear p2
    try clear c3
    try clear c4
    try clear c5
    try clear c6
    try clear c20
    try clear c24
    try clear c25
    try clear c26
    try clear c27
    try clear c28
    try clear c30
    try clear c31
    try clear c34
    try clear c35
    try clear c35b0
    try clear c35b1
    try clear c36
    try clear c36b0
    try clear c36b1
    try clear c37
    try clear c37b0
    try clear c37b1
    try clear c38
    try clear c38b0
    try clear c38b1
    try clear c40
    try clear c40b0
    try clear c40b1
    try clear c42
    try clear c42b0
    try clear c42b1
    try clear c43
    try clear c44
    try clear c47
    try clear c52
    try clear c53
    try clear c56
    try clear c59
    try clear c60
    try clear hcz15_0
    try clear hcz15_1
    try clear hcz15_2
    try clear hcz25_0
    try clear hcz25_1
    try clear hcz25_2
    try clear hcz27_0
    try clear hcz27_1
    try clear hcz27_2
    try clear hcz32_0
    try clear hcz32_1
    try clear hcz32_2
    try clear hcz45_0
    try clear hcz45_1
    try clear hcz45_2
    try clear hcz48_0
    try clear hcz48_1
    try clear hcz48_2
    try clear hcz50_0
    try clear hcz50_1
    try clear hcz50_2
    try clear hcz51_0
    try clear hcz51_1
    try clear hcz51_2
    try clear hcz54_0
    try clear hcz54_1
    try clear hcz54_2
    try clear hcz57_0
    try clear hcz57_1
    try clear hcz57_2
    try clear hcz61_0
    try clear hcz61_1
    try clear hcz61_2
    try clear hfz15_0
    try clear hfz15_1
    try clear hfz15_2
    try clear hfz25_0
    try clear hfz25_1
    try clear hfz25_2
    try clear hfz27_0
    try clear hfz27_1
    try clear hfz27_2
    try clear hfz32_0
    try clear hfz32_1
    try clear hfz32_2
    try clear hfz45_0
    try clear hfz45_1
    try clear hfz45_2
    try clear hfz48_0
    try clear hfz48_1
    try clear hfz48_2
    try clear hfz50_0
    try clear hfz50_1
    try clear hfz50_2
    try clear hfz51_0
    try clear hfz51_1
    try clear hfz51_2
    try clear hfz54_0
    try clear hfz54_1
    try clear hfz54_2
    try clear hfz57_0
    try clear hfz57_1
    try clear hfz57_2
    try clear hfz61_0
    try clear hfz61_1
    try clear hfz61_2
    obtain ⟨kq, x83_10, rfl, HA, HJ10, BK445, BK451, BK459, HB⟩ := hcut
    cases kq with
    | zero => exact absurd HA.out (by simp [tipstafflaw16_PanelKeeps.j0])
    | succ kj10 =>
      have H := HA.out
      clear HA
      simp only [tipstafflaw16_PanelKeeps.j0] at H
      by_cases c63 : x83_10 = true
      · subst c63
        have H1 : (none) = some r := by rw [if_pos rfl] at H; exact H
        clear H
        have H := H1
        clear H1
        exact absurd H (by simp)
      · replace c63 := Bool.eq_false_iff.mpr c63
        subst c63
        have H1 := H
        rw [if_neg (show ¬ (false = true) by decide)] at H1
        clear H
        have H := H1
        clear H1
        replace H := Option.bind_eq_some_iff.mp H
        obtain ⟨t464, A640, H⟩ := H
        try dsimp only at H
        have A64 := Aside0.mk A640
        clear A640
        by_cases c65 : t464 > 1
        · rw [if_pos c65] at H
          exact absurd H (by simp)
        · rw [if_neg c65] at H
          have c65b0 : decide (1 < t464) = false := decide_eq_false c65
          clear c65
          by_cases c66 : t454 < 0
          · rw [if_pos c66] at H
            exact absurd H (by simp)
          · rw [if_neg c66] at H
            have c66b0 : decide (t454 < 0) = false := decide_eq_false c66
            clear c66
            by_cases c67 : t454 > t448
            · rw [if_pos c67] at H
              exact absurd H (by simp)
            · rw [if_neg c67] at H
              have c67b0 : decide (t448 < t454) = false := decide_eq_false c67
              clear c67
              by_cases c68 : ((t452 == 0) != (t449 == 0)) = true
              · rw [if_pos c68] at H
                exact absurd H (by simp)
              · rw [if_neg c68] at H
                have c68b0 : ((t452 == 0) != (t449 == 0)) = false := by simpa using c68
                (try (have c68b1 : decide ((t452 == 0) = (t449 == 0)) = true := by simpa using c68))
                (try (have c68b2 : ((t452 == 0) == (t449 == 0)) = true := by simpa using c68))
                clear c68
                obtain ⟨ji69, hji69⟩ : ∃ j_ : Int, (mx 0 (wrap64 (t452 - 1))) = j_ := ⟨_, rfl⟩
                replace H : (if t460 = (ji69) then (if t440 = true then (if t449 = 1 then (if ((t457 == 1) == (t454 == t455)) = true then (if t449 = (-1) then (some ((t457 == (-1)) == (t454 == 0))) else (some ((t457 == (-1)) == false))) else (none)) else (if ((t457 == 1) == false) = true then (if t449 = (-1) then (some ((t457 == (-1)) == (t454 == 0))) else (some ((t457 == (-1)) == false))) else (none))) else (none)) else (none)) = some r := by first | (rw [hji69] at H; exact H) | (simp only [hji69] at H ⊢; exact H)
                (try rw [hji69] at A64)
                have hji69_ : (if 0 < (wrap64 (t452 - 1)) then (wrap64 (t452 - 1)) else 0) = ji69 := hji69
                by_cases c70 : t460 = (ji69)
                · rw [if_pos c70] at H
                  have c70b0 : (t460 == (ji69)) = true := beq_iff_eq.mpr c70
                  have c70b1 : (t460 != (ji69)) = false := bne_eq_false_iff_eq.mpr c70
                  clear c70
                  by_cases c71 : t440 = true
                  · subst c71
                    have H1 : (if t449 = 1 then (if ((t457 == 1) == (t454 == t455)) = true then (if t449 = (-1) then (some ((t457 == (-1)) == (t454 == 0))) else (some ((t457 == (-1)) == false))) else (none)) else (if ((t457 == 1) == false) = true then (if t449 = (-1) then (some ((t457 == (-1)) == (t454 == 0))) else (some ((t457 == (-1)) == false))) else (none))) = some r := by rw [if_pos rfl] at H; exact H
                    clear H
                    have H := H1
                    clear H1
                    by_cases c72 : t449 = 1
                    · rw [if_pos c72] at H
                      have c72b0 : (t449 == 1) = true := beq_iff_eq.mpr c72
                      have c72b1 : (t449 != 1) = false := bne_eq_false_iff_eq.mpr c72
                      clear c72
                      by_cases c73 : ((t457 == 1) == (t454 == t455)) = true
                      · rw [if_pos c73] at H
                        have c73b0 : ((t457 == 1) == (t454 == t455)) = true := c73
                        (try (have c73b1 : decide ((t457 == 1) = (t454 == t455)) = true := by simpa using c73))
                        (try (have c73b2 : ((t457 == 1) == (t454 == t455)) = true := by simpa using c73))
                        clear c73
                        by_cases c74 : t449 = (-1)
                        · rw [if_pos c74] at H
                          have c74b0 : (t449 == (-1)) = true := beq_iff_eq.mpr c74
                          have c74b1 : (t449 != (-1)) = false := bne_eq_false_iff_eq.mpr c74
                          clear c74
                          obtain rfl := Option.some.inj H
                          have hnb75 := NB459_445.out
                          have hnc75 := NB445_459.out
                          have hnb76 := NB459_451.out
                          have hnc76 := NB451_459.out
                          have hcz77_0 : wc.cell? ⟨gb459, 0, none⟩ = some (.int .i64 t454) := (blk_cell BK459.out 0).trans rfl
                          have hcz77_1 : wc.cell? ⟨gb459, 1, none⟩ = some (.int .i64 t455) := (blk_cell BK459.out 1).trans rfl
                          have hcz77_2 : wc.cell? ⟨gb459, 2, none⟩ = some (.int .i64 t456) := (blk_cell BK459.out 2).trans rfl
                          have hfz77_0 := blk_frozen BK459.out 0
                          have hfz77_1 := blk_frozen BK459.out 1
                          have hfz77_2 := blk_frozen BK459.out 2
                          have hnb78 := NB451_445.out
                          have hnc78 := NB445_451.out
                          have hcz79_0 : wc.cell? ⟨gb451, 0, none⟩ = some (.int .i64 t447) := (blk_cell BK451.out 0).trans rfl
                          have hcz79_1 : wc.cell? ⟨gb451, 1, none⟩ = some (.int .i64 t448) := (blk_cell BK451.out 1).trans rfl
                          have hcz79_2 : wc.cell? ⟨gb451, 2, none⟩ = some (.int .i64 t449) := (blk_cell BK451.out 2).trans rfl
                          have hfz79_0 := blk_frozen BK451.out 0
                          have hfz79_1 := blk_frozen BK451.out 1
                          have hfz79_2 := blk_frozen BK451.out 2
                          go_wp2_with (first | ((with_reducible refine gate_callee (f := 29) rfl ?_); refine goesL_ (some 88) rfl rfl Try.func29 (by kernel_rfl) rfl #[.int .i64 t454, .int .i64 t447] rfl (by (try simp only [List.map_toArray, List.map_cons, List.map_nil]); first | done | rfl | (simp only [List.length_drop, List.length_take]; rfl)) ?_; (with_reducible refine (tipstafflaw16_far.calls t454 t447 t464 _ A64.out).mono ?_); rintro e w80 ⟨rfl, hb⟩; refine ⟨_, rfl, ?_⟩; have n0_ := Aside0.mk (blk_below (g := gb445) (o := .cells #[.int .i64 t441, .int .i64 t442, .int .i64 t443] 23 (0, 0)) (by (with_reducible repeat (first | refine blk_drewN ?_ _ | refine blk_drew ?_ | refine blk_alloc ?_ _)); exact BK445.out) hb); have n1_ := Aside0.mk (blk_below (g := gb451) (o := .cells #[.int .i64 t447, .int .i64 t448, .int .i64 t449] 23 (0, 0)) (by (with_reducible repeat (first | refine blk_drewN ?_ _ | refine blk_drew ?_ | refine blk_alloc ?_ _)); exact BK451.out) hb); have n2_ := Aside0.mk (blk_below (g := gb459) (o := .cells #[.int .i64 t454, .int .i64 t455, .int .i64 t456] 23 (0, 0)) (by (with_reducible repeat (first | refine blk_drewN ?_ _ | refine blk_drew ?_ | refine blk_alloc ?_ _)); exact BK459.out) hb); have n3_ := Aside0.mk (below_step (by repeat (first | (with_reducible first | exact HB.out | apply below_alloc | apply pw_below_drewN | apply below_drew1 | refine below_set ?_ GE445.out | refine below_set ?_ GE451.out | refine below_set ?_ GE459.out) | exact HB.out)) hb); clear BK445; clear BK451; clear BK459; clear HB; have BK445 := n0_; have BK451 := n1_; have BK459 := n2_; have HB := n3_; clear n0_ n1_ n2_ n3_; (try clear hb); (try clear hb2); (try clear hk); (try clear hi); have hcz81_0 : w80.cell? ⟨gb459, 0, none⟩ = some (.int .i64 t454) := (blk_cell BK459.out 0).trans rfl; have hcz81_1 : w80.cell? ⟨gb459, 1, none⟩ = some (.int .i64 t455) := (blk_cell BK459.out 1).trans rfl; have hcz81_2 : w80.cell? ⟨gb459, 2, none⟩ = some (.int .i64 t456) := (blk_cell BK459.out 2).trans rfl; have hfz81_0 := blk_frozen BK459.out 0; have hfz81_1 := blk_frozen BK459.out 1; have hfz81_2 := blk_frozen BK459.out 2; have hcz82_0 : w80.cell? ⟨gb451, 0, none⟩ = some (.int .i64 t447) := (blk_cell BK451.out 0).trans rfl; have hcz82_1 : w80.cell? ⟨gb451, 1, none⟩ = some (.int .i64 t448) := (blk_cell BK451.out 1).trans rfl; have hcz82_2 : w80.cell? ⟨gb451, 2, none⟩ = some (.int .i64 t449) := (blk_cell BK451.out 2).trans rfl; have hfz82_0 := blk_frozen BK451.out 0; have hfz82_1 := blk_frozen BK451.out 1; have hfz82_2 := blk_frozen BK451.out 2))
                          go_ret
                          exact ⟨by first | rfl | (simp [errW_none, errW_some] <;> rfl) | (simp only [← hji69]; first | rfl | (simp [errW_none, errW_some] <;> rfl)) | (simp [*, errW_none, errW_some] <;> rfl) | (simp (discharger := omega) only [Int.tdiv_eq_ediv_of_nonneg, Int.tmod_eq_emod_of_nonneg] <;> rfl), by repeat (first | (with_reducible first | exact HB.out | apply below_alloc | apply pw_below_drewN | apply below_drew1 | refine below_set ?_ GE445.out | refine below_set ?_ GE451.out | refine below_set ?_ GE459.out) | exact HB.out)⟩
                        · rw [if_neg c74] at H
                          have c74b0 : (t449 == (-1)) = false := beq_eq_false_iff_ne.mpr c74
                          have c74b1 : (t449 != (-1)) = true := bne_iff_ne.mpr c74
                          obtain rfl := Option.some.inj H
                          have hnb83 := NB459_445.out
                          have hnc83 := NB445_459.out
                          have hnb84 := NB459_451.out
                          have hnc84 := NB451_459.out
                          have hcz85_0 : wc.cell? ⟨gb459, 0, none⟩ = some (.int .i64 t454) := (blk_cell BK459.out 0).trans rfl
                          have hcz85_1 : wc.cell? ⟨gb459, 1, none⟩ = some (.int .i64 t455) := (blk_cell BK459.out 1).trans rfl
                          have hcz85_2 : wc.cell? ⟨gb459, 2, none⟩ = some (.int .i64 t456) := (blk_cell BK459.out 2).trans rfl
                          have hfz85_0 := blk_frozen BK459.out 0
                          have hfz85_1 := blk_frozen BK459.out 1
                          have hfz85_2 := blk_frozen BK459.out 2
                          have hnb86 := NB451_445.out
                          have hnc86 := NB445_451.out
                          have hcz87_0 : wc.cell? ⟨gb451, 0, none⟩ = some (.int .i64 t447) := (blk_cell BK451.out 0).trans rfl
                          have hcz87_1 : wc.cell? ⟨gb451, 1, none⟩ = some (.int .i64 t448) := (blk_cell BK451.out 1).trans rfl
                          have hcz87_2 : wc.cell? ⟨gb451, 2, none⟩ = some (.int .i64 t449) := (blk_cell BK451.out 2).trans rfl
                          have hfz87_0 := blk_frozen BK451.out 0
                          have hfz87_1 := blk_frozen BK451.out 1
                          have hfz87_2 := blk_frozen BK451.out 2
                          go_wp2_with (first | ((with_reducible refine gate_callee (f := 29) rfl ?_); refine goesL_ (some 88) rfl rfl Try.func29 (by kernel_rfl) rfl #[.int .i64 t454, .int .i64 t447] rfl (by (try simp only [List.map_toArray, List.map_cons, List.map_nil]); first | done | rfl | (simp only [List.length_drop, List.length_take]; rfl)) ?_; (with_reducible refine (tipstafflaw16_far.calls t454 t447 t464 _ A64.out).mono ?_); rintro e w88 ⟨rfl, hb⟩; refine ⟨_, rfl, ?_⟩; have n0_ := Aside0.mk (blk_below (g := gb445) (o := .cells #[.int .i64 t441, .int .i64 t442, .int .i64 t443] 23 (0, 0)) (by (with_reducible repeat (first | refine blk_drewN ?_ _ | refine blk_drew ?_ | refine blk_alloc ?_ _)); exact BK445.out) hb); have n1_ := Aside0.mk (blk_below (g := gb451) (o := .cells #[.int .i64 t447, .int .i64 t448, .int .i64 t449] 23 (0, 0)) (by (with_reducible repeat (first | refine blk_drewN ?_ _ | refine blk_drew ?_ | refine blk_alloc ?_ _)); exact BK451.out) hb); have n2_ := Aside0.mk (blk_below (g := gb459) (o := .cells #[.int .i64 t454, .int .i64 t455, .int .i64 t456] 23 (0, 0)) (by (with_reducible repeat (first | refine blk_drewN ?_ _ | refine blk_drew ?_ | refine blk_alloc ?_ _)); exact BK459.out) hb); have n3_ := Aside0.mk (below_step (by repeat (first | (with_reducible first | exact HB.out | apply below_alloc | apply pw_below_drewN | apply below_drew1 | refine below_set ?_ GE445.out | refine below_set ?_ GE451.out | refine below_set ?_ GE459.out) | exact HB.out)) hb); clear BK445; clear BK451; clear BK459; clear HB; have BK445 := n0_; have BK451 := n1_; have BK459 := n2_; have HB := n3_; clear n0_ n1_ n2_ n3_; (try clear hb); (try clear hb2); (try clear hk); (try clear hi); have hcz89_0 : w88.cell? ⟨gb459, 0, none⟩ = some (.int .i64 t454) := (blk_cell BK459.out 0).trans rfl; have hcz89_1 : w88.cell? ⟨gb459, 1, none⟩ = some (.int .i64 t455) := (blk_cell BK459.out 1).trans rfl; have hcz89_2 : w88.cell? ⟨gb459, 2, none⟩ = some (.int .i64 t456) := (blk_cell BK459.out 2).trans rfl; have hfz89_0 := blk_frozen BK459.out 0; have hfz89_1 := blk_frozen BK459.out 1; have hfz89_2 := blk_frozen BK459.out 2; have hcz90_0 : w88.cell? ⟨gb451, 0, none⟩ = some (.int .i64 t447) := (blk_cell BK451.out 0).trans rfl; have hcz90_1 : w88.cell? ⟨gb451, 1, none⟩ = some (.int .i64 t448) := (blk_cell BK451.out 1).trans rfl; have hcz90_2 : w88.cell? ⟨gb451, 2, none⟩ = some (.int .i64 t449) := (blk_cell BK451.out 2).trans rfl; have hfz90_0 := blk_frozen BK451.out 0; have hfz90_1 := blk_frozen BK451.out 1; have hfz90_2 := blk_frozen BK451.out 2))
                          go_ret
                          exact ⟨by first | rfl | (simp [errW_none, errW_some] <;> rfl) | (simp only [← hji69]; first | rfl | (simp [errW_none, errW_some] <;> rfl)) | (simp [*, errW_none, errW_some] <;> rfl) | (simp (discharger := omega) only [Int.tdiv_eq_ediv_of_nonneg, Int.tmod_eq_emod_of_nonneg] <;> rfl), by repeat (first | (with_reducible first | exact HB.out | apply below_alloc | apply pw_below_drewN | apply below_drew1 | refine below_set ?_ GE445.out | refine below_set ?_ GE451.out | refine below_set ?_ GE459.out) | exact HB.out)⟩
                      · rw [if_neg c73] at H
                        exact absurd H (by simp)
                    · rw [if_neg c72] at H
                      have c72b0 : (t449 == 1) = false := beq_eq_false_iff_ne.mpr c72
                      have c72b1 : (t449 != 1) = true := bne_iff_ne.mpr c72
                      by_cases c91 : ((t457 == 1) == false) = true
                      · rw [if_pos c91] at H
                        have c91b0 : ((t457 == 1) == false) = true := c91
                        (try (have c91b1 : decide ((t457 == 1) = false) = true := by simpa using c91))
                        (try (have c91b2 : ((t457 == 1) == false) = true := by simpa using c91))
                        clear c91
                        by_cases c92 : t449 = (-1)
                        · rw [if_pos c92] at H
                          have c92b0 : (t449 == (-1)) = true := beq_iff_eq.mpr c92
                          have c92b1 : (t449 != (-1)) = false := bne_eq_false_iff_eq.mpr c92
                          clear c92
                          obtain rfl := Option.some.inj H
                          have hnb93 := NB459_445.out
                          have hnc93 := NB445_459.out
                          have hnb94 := NB459_451.out
                          have hnc94 := NB451_459.out
                          have hcz95_0 : wc.cell? ⟨gb459, 0, none⟩ = some (.int .i64 t454) := (blk_cell BK459.out 0).trans rfl
                          have hcz95_1 : wc.cell? ⟨gb459, 1, none⟩ = some (.int .i64 t455) := (blk_cell BK459.out 1).trans rfl
                          have hcz95_2 : wc.cell? ⟨gb459, 2, none⟩ = some (.int .i64 t456) := (blk_cell BK459.out 2).trans rfl
                          have hfz95_0 := blk_frozen BK459.out 0
                          have hfz95_1 := blk_frozen BK459.out 1
                          have hfz95_2 := blk_frozen BK459.out 2
                          have hnb96 := NB451_445.out
                          have hnc96 := NB445_451.out
                          have hcz97_0 : wc.cell? ⟨gb451, 0, none⟩ = some (.int .i64 t447) := (blk_cell BK451.out 0).trans rfl
                          have hcz97_1 : wc.cell? ⟨gb451, 1, none⟩ = some (.int .i64 t448) := (blk_cell BK451.out 1).trans rfl
                          have hcz97_2 : wc.cell? ⟨gb451, 2, none⟩ = some (.int .i64 t449) := (blk_cell BK451.out 2).trans rfl
                          have hfz97_0 := blk_frozen BK451.out 0
                          have hfz97_1 := blk_frozen BK451.out 1
                          have hfz97_2 := blk_frozen BK451.out 2
                          go_wp2_with (first | ((with_reducible refine gate_callee (f := 29) rfl ?_); refine goesL_ (some 88) rfl rfl Try.func29 (by kernel_rfl) rfl #[.int .i64 t454, .int .i64 t447] rfl (by (try simp only [List.map_toArray, List.map_cons, List.map_nil]); first | done | rfl | (simp only [List.length_drop, List.length_take]; rfl)) ?_; (with_reducible refine (tipstafflaw16_far.calls t454 t447 t464 _ A64.out).mono ?_); rintro e w98 ⟨rfl, hb⟩; refine ⟨_, rfl, ?_⟩; have n0_ := Aside0.mk (blk_below (g := gb445) (o := .cells #[.int .i64 t441, .int .i64 t442, .int .i64 t443] 23 (0, 0)) (by (with_reducible repeat (first | refine blk_drewN ?_ _ | refine blk_drew ?_ | refine blk_alloc ?_ _)); exact BK445.out) hb); have n1_ := Aside0.mk (blk_below (g := gb451) (o := .cells #[.int .i64 t447, .int .i64 t448, .int .i64 t449] 23 (0, 0)) (by (with_reducible repeat (first | refine blk_drewN ?_ _ | refine blk_drew ?_ | refine blk_alloc ?_ _)); exact BK451.out) hb); have n2_ := Aside0.mk (blk_below (g := gb459) (o := .cells #[.int .i64 t454, .int .i64 t455, .int .i64 t456] 23 (0, 0)) (by (with_reducible repeat (first | refine blk_drewN ?_ _ | refine blk_drew ?_ | refine blk_alloc ?_ _)); exact BK459.out) hb); have n3_ := Aside0.mk (below_step (by repeat (first | (with_reducible first | exact HB.out | apply below_alloc | apply pw_below_drewN | apply below_drew1 | refine below_set ?_ GE445.out | refine below_set ?_ GE451.out | refine below_set ?_ GE459.out) | exact HB.out)) hb); clear BK445; clear BK451; clear BK459; clear HB; have BK445 := n0_; have BK451 := n1_; have BK459 := n2_; have HB := n3_; clear n0_ n1_ n2_ n3_; (try clear hb); (try clear hb2); (try clear hk); (try clear hi); have hcz99_0 : w98.cell? ⟨gb459, 0, none⟩ = some (.int .i64 t454) := (blk_cell BK459.out 0).trans rfl; have hcz99_1 : w98.cell? ⟨gb459, 1, none⟩ = some (.int .i64 t455) := (blk_cell BK459.out 1).trans rfl; have hcz99_2 : w98.cell? ⟨gb459, 2, none⟩ = some (.int .i64 t456) := (blk_cell BK459.out 2).trans rfl; have hfz99_0 := blk_frozen BK459.out 0; have hfz99_1 := blk_frozen BK459.out 1; have hfz99_2 := blk_frozen BK459.out 2; have hcz100_0 : w98.cell? ⟨gb451, 0, none⟩ = some (.int .i64 t447) := (blk_cell BK451.out 0).trans rfl; have hcz100_1 : w98.cell? ⟨gb451, 1, none⟩ = some (.int .i64 t448) := (blk_cell BK451.out 1).trans rfl; have hcz100_2 : w98.cell? ⟨gb451, 2, none⟩ = some (.int .i64 t449) := (blk_cell BK451.out 2).trans rfl; have hfz100_0 := blk_frozen BK451.out 0; have hfz100_1 := blk_frozen BK451.out 1; have hfz100_2 := blk_frozen BK451.out 2))
                          go_ret
                          exact ⟨by first | rfl | (simp [errW_none, errW_some] <;> rfl) | (simp only [← hji69]; first | rfl | (simp [errW_none, errW_some] <;> rfl)) | (simp [*, errW_none, errW_some] <;> rfl) | (simp (discharger := omega) only [Int.tdiv_eq_ediv_of_nonneg, Int.tmod_eq_emod_of_nonneg] <;> rfl), by repeat (first | (with_reducible first | exact HB.out | apply below_alloc | apply pw_below_drewN | apply below_drew1 | refine below_set ?_ GE445.out | refine below_set ?_ GE451.out | refine below_set ?_ GE459.out) | exact HB.out)⟩
                        · rw [if_neg c92] at H
                          have c92b0 : (t449 == (-1)) = false := beq_eq_false_iff_ne.mpr c92
                          have c92b1 : (t449 != (-1)) = true := bne_iff_ne.mpr c92
                          obtain rfl := Option.some.inj H
                          have hnb101 := NB459_445.out
                          have hnc101 := NB445_459.out
                          have hnb102 := NB459_451.out
                          have hnc102 := NB451_459.out
                          have hcz103_0 : wc.cell? ⟨gb459, 0, none⟩ = some (.int .i64 t454) := (blk_cell BK459.out 0).trans rfl
                          have hcz103_1 : wc.cell? ⟨gb459, 1, none⟩ = some (.int .i64 t455) := (blk_cell BK459.out 1).trans rfl
                          have hcz103_2 : wc.cell? ⟨gb459, 2, none⟩ = some (.int .i64 t456) := (blk_cell BK459.out 2).trans rfl
                          have hfz103_0 := blk_frozen BK459.out 0
                          have hfz103_1 := blk_frozen BK459.out 1
                          have hfz103_2 := blk_frozen BK459.out 2
                          have hnb104 := NB451_445.out
                          have hnc104 := NB445_451.out
                          have hcz105_0 : wc.cell? ⟨gb451, 0, none⟩ = some (.int .i64 t447) := (blk_cell BK451.out 0).trans rfl
                          have hcz105_1 : wc.cell? ⟨gb451, 1, none⟩ = some (.int .i64 t448) := (blk_cell BK451.out 1).trans rfl
                          have hcz105_2 : wc.cell? ⟨gb451, 2, none⟩ = some (.int .i64 t449) := (blk_cell BK451.out 2).trans rfl
                          have hfz105_0 := blk_frozen BK451.out 0
                          have hfz105_1 := blk_frozen BK451.out 1
                          have hfz105_2 := blk_frozen BK451.out 2
                          go_wp2_with (first | ((with_reducible refine gate_callee (f := 29) rfl ?_); refine goesL_ (some 88) rfl rfl Try.func29 (by kernel_rfl) rfl #[.int .i64 t454, .int .i64 t447] rfl (by (try simp only [List.map_toArray, List.map_cons, List.map_nil]); first | done | rfl | (simp only [List.length_drop, List.length_take]; rfl)) ?_; (with_reducible refine (tipstafflaw16_far.calls t454 t447 t464 _ A64.out).mono ?_); rintro e w106 ⟨rfl, hb⟩; refine ⟨_, rfl, ?_⟩; have n0_ := Aside0.mk (blk_below (g := gb445) (o := .cells #[.int .i64 t441, .int .i64 t442, .int .i64 t443] 23 (0, 0)) (by (with_reducible repeat (first | refine blk_drewN ?_ _ | refine blk_drew ?_ | refine blk_alloc ?_ _)); exact BK445.out) hb); have n1_ := Aside0.mk (blk_below (g := gb451) (o := .cells #[.int .i64 t447, .int .i64 t448, .int .i64 t449] 23 (0, 0)) (by (with_reducible repeat (first | refine blk_drewN ?_ _ | refine blk_drew ?_ | refine blk_alloc ?_ _)); exact BK451.out) hb); have n2_ := Aside0.mk (blk_below (g := gb459) (o := .cells #[.int .i64 t454, .int .i64 t455, .int .i64 t456] 23 (0, 0)) (by (with_reducible repeat (first | refine blk_drewN ?_ _ | refine blk_drew ?_ | refine blk_alloc ?_ _)); exact BK459.out) hb); have n3_ := Aside0.mk (below_step (by repeat (first | (with_reducible first | exact HB.out | apply below_alloc | apply pw_below_drewN | apply below_drew1 | refine below_set ?_ GE445.out | refine below_set ?_ GE451.out | refine below_set ?_ GE459.out) | exact HB.out)) hb); clear BK445; clear BK451; clear BK459; clear HB; have BK445 := n0_; have BK451 := n1_; have BK459 := n2_; have HB := n3_; clear n0_ n1_ n2_ n3_; (try clear hb); (try clear hb2); (try clear hk); (try clear hi); have hcz107_0 : w106.cell? ⟨gb459, 0, none⟩ = some (.int .i64 t454) := (blk_cell BK459.out 0).trans rfl; have hcz107_1 : w106.cell? ⟨gb459, 1, none⟩ = some (.int .i64 t455) := (blk_cell BK459.out 1).trans rfl; have hcz107_2 : w106.cell? ⟨gb459, 2, none⟩ = some (.int .i64 t456) := (blk_cell BK459.out 2).trans rfl; have hfz107_0 := blk_frozen BK459.out 0; have hfz107_1 := blk_frozen BK459.out 1; have hfz107_2 := blk_frozen BK459.out 2; have hcz108_0 : w106.cell? ⟨gb451, 0, none⟩ = some (.int .i64 t447) := (blk_cell BK451.out 0).trans rfl; have hcz108_1 : w106.cell? ⟨gb451, 1, none⟩ = some (.int .i64 t448) := (blk_cell BK451.out 1).trans rfl; have hcz108_2 : w106.cell? ⟨gb451, 2, none⟩ = some (.int .i64 t449) := (blk_cell BK451.out 2).trans rfl; have hfz108_0 := blk_frozen BK451.out 0; have hfz108_1 := blk_frozen BK451.out 1; have hfz108_2 := blk_frozen BK451.out 2))
                          go_ret
                          exact ⟨by first | rfl | (simp [errW_none, errW_some] <;> rfl) | (simp only [← hji69]; first | rfl | (simp [errW_none, errW_some] <;> rfl)) | (simp [*, errW_none, errW_some] <;> rfl) | (simp (discharger := omega) only [Int.tdiv_eq_ediv_of_nonneg, Int.tmod_eq_emod_of_nonneg] <;> rfl), by repeat (first | (with_reducible first | exact HB.out | apply below_alloc | apply pw_below_drewN | apply below_drew1 | refine below_set ?_ GE445.out | refine below_set ?_ GE451.out | refine below_set ?_ GE459.out) | exact HB.out)⟩
                      · rw [if_neg c91] at H
                        exact absurd H (by simp)
                  · replace c71 := Bool.eq_false_iff.mpr c71
                    subst c71
                    have H1 : (none) = some r := by rw [if_neg (show ¬ (false = true) by decide)] at H; exact H
                    clear H
                    have H := H1
                    clear H1
                    exact absurd H (by simp)
                · rw [if_neg c70] at H
                  exact absurd H (by simp)

/-- THE ONE PURE STATEMENT of tipstafflaw16_PanelKeeps: yours. -/
def tipstafflaw16_PanelKeeps.Pure : Prop := ∀ (a0 : Int) (l1 : List Int) (a2 : Int), (Lit.int .i64 a0).wf = true → l1.length ≤ maxLen → l1.length * 8 ≤ 140737488351232 → (∀ x ∈ l1, (Lit.int .i64 x).wf = true) → (Lit.int .i64 a2).wf = true → ∃ k, tipstafflaw16_PanelKeeps.f k a0 l1 a2 = some true
theorem tipstafflaw16_PanelKeeps.walk (P : tipstafflaw16_PanelKeeps.Pure) (a0 : Int) (a1 : Option Addr) (len1 cap1 : Nat) (z1 : List Int) (a2 : Int) (w : World) (w0 : (Lit.int .i64 a0).wf = true) (w1 : (a1 = none ∧ len1 = 0 ∧ cap1 = 0 ∧ z1 = []) ∨ ∃ x, a1 = some x ∧ len1 ≤ cap1 ∧ cap1 ≤ maxLen ∧ z1.length = cap1 ∧ (∀ i, i < z1.length → w.cell? (x.add i) = some (.int .i64 (z1.getD i 0))) ∧ ∀ n ∈ z1, (Lit.int .i64 n).wf = true) (y1 : len1 * 8 ≤ 140737488351232) (w2 : (Lit.int .i64 a2).wf = true) :
    Calls Try.prog 5 #[.int .i64 a0, .slice a1 len1 cap1, .int .i64 a2] w fun e w' => e = .returned (.bool true) ∧ Below w.heap.size w w' := by
  obtain ⟨l1, rfl, hr1, hm1, hw1, hc1⟩ := ReadsInt.ofRowC w1
  obtain ⟨k, h⟩ := P a0 l1 a2 w0 hm1 y1 hw1 w2
  refine (tipstafflaw16_PanelKeeps.calls k a0 _ _ l1 a2 true w (Kd.C_of_reads (d := (0 : Int)) (h1 := fun _ => rfl) hr1) hc1 h).mono ?_
  rintro e w' ⟨rfl, hd⟩
  exact ⟨rfl, hd⟩

end Go.Proofs.Ytbkidegpgpccfaa.S
