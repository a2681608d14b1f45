-- PRINTED by print.py (a twelfth state) out of the translation. Not trusted: Lean checks it.
import Derived.Test.YtbkidegpgpccfaaS0
import Derived.Test.YtbkidegpgpccfaaS1
import Derived.Test.YtbkidegpgpccfaaS2
import Derived.Test.YtbkidegpgpccfaaS3
import Derived.Test.YtbkidegpgpccfaaS4
import Derived.Test.YtbkidegpgpccfaaS9
namespace Go.Proofs.Ytbkidegpgpccfaa.S
open Go.RowKit Go.Proofs.YtbkidegpgpccfaaW.PrintWords Go.Proofs.YtbkidegpgpccfaaW.PrintLast Go.Proofs.YtbkidegpgpccfaaW.PrintMore
attribute [local go_sem] Go.Proofs.YtbkidegpgpccfaaW.PrintXtra.isSome_setCell max2_int min2_int max_two min_two max_three min_three max_four min_four   -- for this text's walks alone
set_option linter.unusedVariables false
set_option linter.unusedSimpArgs false

attribute [local go_sem high] eqA23
/-! ### tipstafflaw16_PanelKnown: function 4 -/
def tipstafflaw16_PanelKnown.f (k : Nat)  : Option (Bool) := (panel_New.f 3).bind fun bt281 => ((tipstafflaw16_at.f 2 3 (-1)).bind fun bt286 => ((panel_Least.f k bt286.1 bt286.2.1 bt286.2.2 3).bind fun bt289 => ((tipstafflaw16_at.f 2 3 1).bind fun bt291 => ((panel_Least.f k bt291.1 bt291.2.1 bt291.2.2 2).bind fun bt294 => ((tipstafflaw16_at.f 0 3 0).bind fun bt296 => ((panel_Orders.f k bt296.1 bt296.2.1 bt296.2.2 3 2).bind fun bt299 => ((tipstafflaw16_at.f 0 3 0).bind fun bt303 => ((panel_Least.f k bt303.1 bt303.2.1 bt303.2.2 4).bind fun bt306 => ((tipstafflaw16_at.f 0 3 0).bind fun bt308 => ((panel_Order.f k bt308.1 bt308.2.1 bt308.2.2 5).bind fun bt311 => ((tipstafflaw16_at.f 0 3 1).bind fun bt316 => ((tipstafflaw16_at.f 1 3 1).bind fun bt319 => ((tipstafflaw16_steps.f k bt316.1 bt316.2.1 bt316.2.2 bt319.1 bt319.2.1 bt319.2.2 0).bind fun t322 => (if t322 = true then ((tipstafflaw16_at.f 1 3 1).bind fun bt323 => ((tipstafflaw16_at.f 2 3 1).bind fun bt326 => ((tipstafflaw16_steps.f k bt323.1 bt323.2.1 bt323.2.2 bt326.1 bt326.2.1 bt326.2.2 0).bind fun t329 => (if t329 = true then ((tipstafflaw16_at.f 2 3 1).bind fun bt330 => ((tipstafflaw16_at.f 2 3 (-1)).bind fun bt333 => ((tipstafflaw16_told.f k bt330.1 bt330.2.1 bt330.2.2 4 bt333.1 bt333.2.1 bt333.2.2).bind fun t336 => (if t336 = true then ((tipstafflaw16_at.f 2 3 (-1)).bind fun bt337 => ((tipstafflaw16_at.f 1 3 (-1)).bind fun bt340 => ((tipstafflaw16_steps.f k bt337.1 bt337.2.1 bt337.2.2 bt340.1 bt340.2.1 bt340.2.2 0).bind fun t343 => (if t343 = true then ((tipstafflaw16_at.f 1 3 (-1)).bind fun bt344 => ((tipstafflaw16_at.f 0 3 0).bind fun bt347 => ((tipstafflaw16_steps.f k bt344.1 bt344.2.1 bt344.2.2 bt347.1 bt347.2.1 bt347.2.2 (-1)).bind fun t350 => (if t350 = true then ((tipstafflaw16_at.f 1 3 0).bind fun bt351 => ((tipstafflaw16_at.f 1 3 0).bind fun bt354 => ((tipstafflaw16_steps.f k bt351.1 bt351.2.1 bt351.2.2 bt354.1 bt354.2.1 bt354.2.2 0).bind fun t357 => ((tipstafflaw16_at.f 2 3 1).bind fun bt358 => ((tipstafflaw16_left.f k bt358.1 bt358.2.1 bt358.2.2 1).bind fun t361 => (if t361 = true then ((tipstafflaw16_at.f 2 3 (-1)).bind fun bt362 => ((tipstafflaw16_left.f k bt362.1 bt362.2.1 bt362.2.2 2).bind fun t365 => (if t365 = true then ((tipstafflaw16_at.f 2 3 0).bind fun bt366 => ((tipstafflaw16_left.f k bt366.1 bt366.2.1 bt366.2.2 0).bind fun t369 => (if t369 = true then ((tipstafflaw16_at.f 0 3 0).bind fun bt370 => ((tipstafflaw16_at.f 0 3 0).bind fun bt373 => ((tipstafflaw16_told.f k bt370.1 bt370.2.1 bt370.2.2 2 bt373.1 bt373.2.1 bt373.2.2).bind fun t376 => (if t376 = true then ((tipstafflaw16_at.f 0 3 1).bind fun bt377 => ((tipstafflaw16_at.f 0 3 0).bind fun bt380 => ((tipstafflaw16_told.f k bt377.1 bt377.2.1 bt377.2.2 4 bt380.1 bt380.2.1 bt380.2.2).bind fun t383 => (if bt299.2 = 3 then (if bt306.2 = 2 then (if bt311.2.2.2 = 11 then ((tipstafflaw16_at.f 3 3 1).bind fun bt384 => ((panel_Check.f k bt384.1 bt384.2.1 bt384.2.2).bind fun t387 => (if t387 = 3 then ((tipstafflaw16_at.f 0 21 0).bind fun bt388 => ((panel_Check.f k bt388.1 bt388.2.1 bt388.2.2).bind fun t391 => ((tipstafflaw16_awake.f k).bind fun t392 => (if t392 = true then (if bt281.2.2.2 = 0 then ((tipstafflaw16_at.f 0 3 0).bind fun bt393 => (if (bt281.1 == bt393.1 && (bt281.2.1 == bt393.2.1 && (bt281.2.2.1 == bt393.2.2))) = true then (if bt289.2 = 0 then (if bt289.1 = 1 then (if bt294.2 = 0 then (if bt294.1 = 0 then (if t357 = true then (if t383 = true then (some (t391 == 2)) else (none)) else (none)) else (none)) else (none)) else (none)) else (none)) else (none))) else (none)) else (none))))) else ((tipstafflaw16_awake.f k).bind fun t396 => (if t396 = true then (if bt281.2.2.2 = 0 then ((tipstafflaw16_at.f 0 3 0).bind fun bt397 => (if (bt281.1 == bt397.1 && (bt281.2.1 == bt397.2.1 && (bt281.2.2.1 == bt397.2.2))) = true then (if bt289.2 = 0 then (if bt289.1 = 1 then (if bt294.2 = 0 then (if bt294.1 = 0 then (if t357 = true then (if t383 = true then (none) else (none)) else (none)) else (none)) else (none)) else (none)) else (none)) else (none))) else (none)) else (none)))))) else ((tipstafflaw16_awake.f k).bind fun t400 => (if t400 = true then (if bt281.2.2.2 = 0 then ((tipstafflaw16_at.f 0 3 0).bind fun bt401 => (if (bt281.1 == bt401.1 && (bt281.2.1 == bt401.2.1 && (bt281.2.2.1 == bt401.2.2))) = true then (if bt289.2 = 0 then (if bt289.1 = 1 then (if bt294.2 = 0 then (if bt294.1 = 0 then (if t357 = true then (if t383 = true then (none) else (none)) else (none)) else (none)) else (none)) else (none)) else (none)) else (none))) else (none)) else (none)))) else ((tipstafflaw16_awake.f k).bind fun t404 => (if t404 = true then (if bt281.2.2.2 = 0 then ((tipstafflaw16_at.f 0 3 0).bind fun bt405 => (if (bt281.1 == bt405.1 && (bt281.2.1 == bt405.2.1 && (bt281.2.2.1 == bt405.2.2))) = true then (if bt289.2 = 0 then (if bt289.1 = 1 then (if bt294.2 = 0 then (if bt294.1 = 0 then (if t357 = true then (if t383 = true then (none) else (none)) else (none)) else (none)) else (none)) else (none)) else (none)) else (none))) else (none)) else (none)))) else ((tipstafflaw16_awake.f k).bind fun t408 => (if t408 = true then (if bt281.2.2.2 = 0 then ((tipstafflaw16_at.f 0 3 0).bind fun bt409 => (if (bt281.1 == bt409.1 && (bt281.2.1 == bt409.2.1 && (bt281.2.2.1 == bt409.2.2))) = true then (if bt289.2 = 0 then (if bt289.1 = 1 then (if bt294.2 = 0 then (if bt294.1 = 0 then (if t357 = true then (if t383 = true then (none) else (none)) else (none)) else (none)) else (none)) else (none)) else (none)) else (none))) else (none)) else (none))))))) else (none))))) else (none)))) else (none)))) else (none))))))) else (none))))) else (none))))) else (none))))) else (none))))) else (none)))))))))))))))
theorem tipstafflaw16_PanelKnown.mono : ∀ k, LeO (tipstafflaw16_PanelKnown.f k ) (tipstafflaw16_PanelKnown.f (k + 1) ) := by
 intro  k
 unfold tipstafflaw16_PanelKnown.f
 repeat' first
   | (with_reducible exact panel_Check.mono _ _ _ _)
   | (with_reducible exact panel_Least.mono _ _ _ _ _)
   | (with_reducible exact panel_Order.mono _ _ _ _ _)
   | (with_reducible exact panel_Orders.mono _ _ _ _ _ _)
   | (with_reducible exact tipstafflaw16_awake.mono _)
   | (with_reducible exact tipstafflaw16_left.mono _ _ _ _ _)
   | (with_reducible exact tipstafflaw16_steps.mono _ _ _ _ _ _ _ _)
   | (with_reducible exact tipstafflaw16_told.mono _ _ _ _ _ _ _ _)
   | (with_reducible exact LeO.refl _)
   | (with_reducible exact LeO.none _)
   | (with_reducible refine LeO.ite ?_ ?_)
   | (with_reducible refine LeO.bind ?_ (fun _ => ?_))
   | exact panel_Check.mono _ _ _ _
   | exact panel_Least.mono _ _ _ _ _
   | exact panel_Order.mono _ _ _ _ _
   | exact panel_Orders.mono _ _ _ _ _ _
   | exact tipstafflaw16_awake.mono _
   | exact tipstafflaw16_left.mono _ _ _ _ _
   | exact tipstafflaw16_steps.mono _ _ _ _ _ _ _ _
   | exact tipstafflaw16_told.mono _ _ _ _ _ _ _ _
   | exact LeO.none _
   | refine LeO.ite ?_ ?_
   | refine LeO.bind ?_ (fun _ => ?_)
def tipstafflaw16_PanelKnown.T10 : Bool × List (List Nat × List Nat) := (true, [([], []), ([0, 0], [0]), ([1], [1]), ([2, 1], [1, 2]), ([1, 3], [1, 3]), ([4, 1], [4]), ([5], [5]), ([5, 5], [5]), ([6, 7, 5], [5, 6, 7]), ([5, 8], [5, 8]), ([9, 7], [9]), ([10], [10]), ([11, 10], [10, 11]), ([10, 12], [10, 12]), ([13, 10], [13]), ([14], [14]), ([15, 14], [14, 15]), ([14, 16], [14, 16]), ([17, 14], [17]), ([18], [18]), ([19, 18], [18, 19]), ([18, 20], [18, 20]), ([21, 18], [21]), ([22], [22]), ([23, 22], [22, 23]), ([22, 24], [22, 24]), ([25, 22], [25]), ([26], [26]), ([26, 27], [26, 27]), ([28, 26], [28]), ([29], [29]), ([29, 30], [29, 30]), ([31, 29], [31]), ([32], [32]), ([32, 33], [32, 33]), ([34, 32, 0, 1, 2, 3, 4, 5, 6, 7, 8, 9, 10, 11, 12, 13, 14, 15, 16, 17, 18, 19, 20, 21, 22, 23, 24, 25, 26, 27, 28, 29, 30, 31, 32, 33, 34], [34])])
def tipstafflaw16_PanelKnown.B10 : List Nat := [0, 1, 3, 7, 15, 31, 63, 63, 255, 511, 1023, 2047, 4095, 8191, 16383, 32767, 65535, 131071, 262143, 524287, 1048575, 2097151, 4194303, 8388607, 16777215, 33554431, 67108863, 134217727, 268435455, 536870911, 1073741823, 2147483647, 4294967295, 8589934591, 17179869183, 34359738367]
theorem tipstafflaw16_PanelKnown.tab10 : rtab .any (opsOf Try.f4 10) = tipstafflaw16_PanelKnown.T10 := by kernel_rfl
theorem tipstafflaw16_PanelKnown.bits10 : waitsOk tipstafflaw16_PanelKnown.T10.2 tipstafflaw16_PanelKnown.B10 = true := by kernel_rfl
set_option maxHeartbeats 8000000 in
set_option maxRecDepth 100000 in
theorem tipstafflaw16_PanelKnown.calls (k : Nat)  (r : Bool) (w : World) (h : tipstafflaw16_PanelKnown.f k  = some r) :
  Calls Try.prog 4 #[] w fun e w' => e = .returned (.bool r) ∧ Below w.heap.size w w' := by
 have hu23 := Try.underlying23
 have HB := Aside0.mk (Below.refl w.heap.size w)
 have H : ((panel_New.f 3).bind fun bt281 => ((tipstafflaw16_at.f 2 3 (-1)).bind fun bt286 => ((panel_Least.f k bt286.1 bt286.2.1 bt286.2.2 3).bind fun bt289 => ((tipstafflaw16_at.f 2 3 1).bind fun bt291 => ((panel_Least.f k bt291.1 bt291.2.1 bt291.2.2 2).bind fun bt294 => ((tipstafflaw16_at.f 0 3 0).bind fun bt296 => ((panel_Orders.f k bt296.1 bt296.2.1 bt296.2.2 3 2).bind fun bt299 => ((tipstafflaw16_at.f 0 3 0).bind fun bt303 => ((panel_Least.f k bt303.1 bt303.2.1 bt303.2.2 4).bind fun bt306 => ((tipstafflaw16_at.f 0 3 0).bind fun bt308 => ((panel_Order.f k bt308.1 bt308.2.1 bt308.2.2 5).bind fun bt311 => ((tipstafflaw16_at.f 0 3 1).bind fun bt316 => ((tipstafflaw16_at.f 1 3 1).bind fun bt319 => ((tipstafflaw16_steps.f k bt316.1 bt316.2.1 bt316.2.2 bt319.1 bt319.2.1 bt319.2.2 0).bind fun t322 => (if t322 = true then ((tipstafflaw16_at.f 1 3 1).bind fun bt323 => ((tipstafflaw16_at.f 2 3 1).bind fun bt326 => ((tipstafflaw16_steps.f k bt323.1 bt323.2.1 bt323.2.2 bt326.1 bt326.2.1 bt326.2.2 0).bind fun t329 => (if t329 = true then ((tipstafflaw16_at.f 2 3 1).bind fun bt330 => ((tipstafflaw16_at.f 2 3 (-1)).bind fun bt333 => ((tipstafflaw16_told.f k bt330.1 bt330.2.1 bt330.2.2 4 bt333.1 bt333.2.1 bt333.2.2).bind fun t336 => (if t336 = true then ((tipstafflaw16_at.f 2 3 (-1)).bind fun bt337 => ((tipstafflaw16_at.f 1 3 (-1)).bind fun bt340 => ((tipstafflaw16_steps.f k bt337.1 bt337.2.1 bt337.2.2 bt340.1 bt340.2.1 bt340.2.2 0).bind fun t343 => (if t343 = true then ((tipstafflaw16_at.f 1 3 (-1)).bind fun bt344 => ((tipstafflaw16_at.f 0 3 0).bind fun bt347 => ((tipstafflaw16_steps.f k bt344.1 bt344.2.1 bt344.2.2 bt347.1 bt347.2.1 bt347.2.2 (-1)).bind fun t350 => (if t350 = true then ((tipstafflaw16_at.f 1 3 0).bind fun bt351 => ((tipstafflaw16_at.f 1 3 0).bind fun bt354 => ((tipstafflaw16_steps.f k bt351.1 bt351.2.1 bt351.2.2 bt354.1 bt354.2.1 bt354.2.2 0).bind fun t357 => ((tipstafflaw16_at.f 2 3 1).bind fun bt358 => ((tipstafflaw16_left.f k bt358.1 bt358.2.1 bt358.2.2 1).bind fun t361 => (if t361 = true then ((tipstafflaw16_at.f 2 3 (-1)).bind fun bt362 => ((tipstafflaw16_left.f k bt362.1 bt362.2.1 bt362.2.2 2).bind fun t365 => (if t365 = true then ((tipstafflaw16_at.f 2 3 0).bind fun bt366 => ((tipstafflaw16_left.f k bt366.1 bt366.2.1 bt366.2.2 0).bind fun t369 => (if t369 = true then ((tipstafflaw16_at.f 0 3 0).bind fun bt370 => ((tipstafflaw16_at.f 0 3 0).bind fun bt373 => ((tipstafflaw16_told.f k bt370.1 bt370.2.1 bt370.2.2 2 bt373.1 bt373.2.1 bt373.2.2).bind fun t376 => (if t376 = true then ((tipstafflaw16_at.f 0 3 1).bind fun bt377 => ((tipstafflaw16_at.f 0 3 0).bind fun bt380 => ((tipstafflaw16_told.f k bt377.1 bt377.2.1 bt377.2.2 4 bt380.1 bt380.2.1 bt380.2.2).bind fun t383 => (if bt299.2 = 3 then (if bt306.2 = 2 then (if bt311.2.2.2 = 11 then ((tipstafflaw16_at.f 3 3 1).bind fun bt384 => ((panel_Check.f k bt384.1 bt384.2.1 bt384.2.2).bind fun t387 => (if t387 = 3 then ((tipstafflaw16_at.f 0 21 0).bind fun bt388 => ((panel_Check.f k bt388.1 bt388.2.1 bt388.2.2).bind fun t391 => ((tipstafflaw16_awake.f k).bind fun t392 => (if t392 = true then (if bt281.2.2.2 = 0 then ((tipstafflaw16_at.f 0 3 0).bind fun bt393 => (if (bt281.1 == bt393.1 && (bt281.2.1 == bt393.2.1 && (bt281.2.2.1 == bt393.2.2))) = true then (if bt289.2 = 0 then (if bt289.1 = 1 then (if bt294.2 = 0 then (if bt294.1 = 0 then (if t357 = true then (if t383 = true then (some (t391 == 2)) else (none)) else (none)) else (none)) else (none)) else (none)) else (none)) else (none))) else (none)) else (none))))) else ((tipstafflaw16_awake.f k).bind fun t396 => (if t396 = true then (if bt281.2.2.2 = 0 then ((tipstafflaw16_at.f 0 3 0).bind fun bt397 => (if (bt281.1 == bt397.1 && (bt281.2.1 == bt397.2.1 && (bt281.2.2.1 == bt397.2.2))) = true then (if bt289.2 = 0 then (if bt289.1 = 1 then (if bt294.2 = 0 then (if bt294.1 = 0 then (if t357 = true then (if t383 = true then (none) else (none)) else (none)) else (none)) else (none)) else (none)) else (none)) else (none))) else (none)) else (none)))))) else ((tipstafflaw16_awake.f k).bind fun t400 => (if t400 = true then (if bt281.2.2.2 = 0 then ((tipstafflaw16_at.f 0 3 0).bind fun bt401 => (if (bt281.1 == bt401.1 && (bt281.2.1 == bt401.2.1 && (bt281.2.2.1 == bt401.2.2))) = true then (if bt289.2 = 0 then (if bt289.1 = 1 then (if bt294.2 = 0 then (if bt294.1 = 0 then (if t357 = true then (if t383 = true then (none) else (none)) else (none)) else (none)) else (none)) else (none)) else (none)) else (none))) else (none)) else (none)))) else ((tipstafflaw16_awake.f k).bind fun t404 => (if t404 = true then (if bt281.2.2.2 = 0 then ((tipstafflaw16_at.f 0 3 0).bind fun bt405 => (if (bt281.1 == bt405.1 && (bt281.2.1 == bt405.2.1 && (bt281.2.2.1 == bt405.2.2))) = true then (if bt289.2 = 0 then (if bt289.1 = 1 then (if bt294.2 = 0 then (if bt294.1 = 0 then (if t357 = true then (if t383 = true then (none) else (none)) else (none)) else (none)) else (none)) else (none)) else (none)) else (none))) else (none)) else (none)))) else ((tipstafflaw16_awake.f k).bind fun t408 => (if t408 = true then (if bt281.2.2.2 = 0 then ((tipstafflaw16_at.f 0 3 0).bind fun bt409 => (if (bt281.1 == bt409.1 && (bt281.2.1 == bt409.2.1 && (bt281.2.2.1 == bt409.2.2))) = true then (if bt289.2 = 0 then (if bt289.1 = 1 then (if bt294.2 = 0 then (if bt294.1 = 0 then (if t357 = true then (if t383 = true then (none) else (none)) else (none)) else (none)) else (none)) else (none)) else (none)) else (none))) else (none)) else (none))))))) else (none))))) else (none)))) else (none)))) else (none))))))) else (none))))) else (none))))) else (none))))) else (none))))) else (none)))))))))))))))) = some r := h
 clear h
 replace H := Option.bind_eq_some_iff.mp H
 obtain ⟨⟨t281, t282, t283, t284⟩, A10, H⟩ := H
 try dsimp only at H
 have A1 := Aside0.mk A10
 clear A10
 replace H := Option.bind_eq_some_iff.mp H
 obtain ⟨⟨t286, t287, t288⟩, A20, H⟩ := H
 try dsimp only at H
 have A2 := Aside0.mk A20
 clear A20
 replace H := Option.bind_eq_some_iff.mp H
 obtain ⟨⟨t289, t290⟩, A30, H⟩ := H
 try dsimp only at H
 have A3 := Aside0.mk A30
 clear A30
 replace H := Option.bind_eq_some_iff.mp H
 obtain ⟨⟨t291, t292, t293⟩, A40, H⟩ := H
 try dsimp only at H
 have A4 := Aside0.mk A40
 clear A40
 replace H := Option.bind_eq_some_iff.mp H
 obtain ⟨⟨t294, t295⟩, A50, H⟩ := H
 try dsimp only at H
 have A5 := Aside0.mk A50
 clear A50
 replace H := Option.bind_eq_some_iff.mp H
 obtain ⟨⟨t296, t297, t298⟩, A60, H⟩ := H
 try dsimp only at H
 have A6 := Aside0.mk A60
 clear A60
 replace H := Option.bind_eq_some_iff.mp H
 obtain ⟨⟨t299, t302⟩, A70, H⟩ := H
 try dsimp only at H
 have A7 := Aside0.mk A70
 clear A70
 replace H := Option.bind_eq_some_iff.mp H
 obtain ⟨⟨t303, t304, t305⟩, A80, H⟩ := H
 obtain ⟨rfl, rfl, rfl⟩ : t296 = t303 ∧ t297 = t304 ∧ t298 = t305 := by have e_ := Option.some.inj (A6.out.symm.trans A80); simpa only [Prod.mk.injEq] using e_
 try dsimp only at H
 have A8 := Aside0.mk A80
 clear A80
 replace H := Option.bind_eq_some_iff.mp H
 obtain ⟨⟨t306, t307⟩, A90, H⟩ := H
 try dsimp only at H
 have A9 := Aside0.mk A90
 clear A90
 replace H := Option.bind_eq_some_iff.mp H
 obtain ⟨⟨t308, t309, t310⟩, A100, H⟩ := H
 obtain ⟨rfl, rfl, rfl⟩ : t296 = t308 ∧ t297 = t309 ∧ t298 = t310 := by have e_ := Option.some.inj (A6.out.symm.trans A100); simpa only [Prod.mk.injEq] using e_
 try dsimp only at H
 have A10 := Aside0.mk A100
 clear A100
 replace H := Option.bind_eq_some_iff.mp H
 obtain ⟨⟨t311, t312, t313, t314⟩, A110, H⟩ := H
 try dsimp only at H
 have A11 := Aside0.mk A110
 clear A110
 replace H := Option.bind_eq_some_iff.mp H
 obtain ⟨⟨t316, t317, t318⟩, A120, H⟩ := H
 try dsimp only at H
 have A12 := Aside0.mk A120
 clear A120
 replace H := Option.bind_eq_some_iff.mp H
 obtain ⟨⟨t319, t320, t321⟩, A130, H⟩ := H
 try dsimp only at H
 have A13 := Aside0.mk A130
 clear A130
 replace H := Option.bind_eq_some_iff.mp H
 obtain ⟨t322, A140, H⟩ := H
 try dsimp only at H
 have A14 := Aside0.mk A140
 clear A140
 by_cases c15 : t322 = true
 ·subst c15
  have H1 := H
  rw [if_pos rfl] at H1
  clear H
  have H := H1
  clear H1
  replace H := Option.bind_eq_some_iff.mp H
  obtain ⟨⟨t323, t324, t325⟩, A160, H⟩ := H
  obtain ⟨rfl, rfl, rfl⟩ : t319 = t323 ∧ t320 = t324 ∧ t321 = t325 := by have e_ := Option.some.inj (A13.out.symm.trans A160); simpa only [Prod.mk.injEq] using e_
  try dsimp only at H
  have A16 := Aside0.mk A160
  clear A160
  replace H := Option.bind_eq_some_iff.mp H
  obtain ⟨⟨t326, t327, t328⟩, A170, H⟩ := H
  obtain ⟨rfl, rfl, rfl⟩ : t291 = t326 ∧ t292 = t327 ∧ t293 = t328 := by have e_ := Option.some.inj (A4.out.symm.trans A170); simpa only [Prod.mk.injEq] using e_
  try dsimp only at H
  have A17 := Aside0.mk A170
  clear A170
  replace H := Option.bind_eq_some_iff.mp H
  obtain ⟨t329, A180, H⟩ := H
  try dsimp only at H
  have A18 := Aside0.mk A180
  clear A180
  by_cases c19 : t329 = true
  ·subst c19
   have H1 := H
   rw [if_pos rfl] at H1
   clear H
   have H := H1
   clear H1
   replace H := Option.bind_eq_some_iff.mp H
   obtain ⟨⟨t330, t331, t332⟩, A200, H⟩ := H
   obtain ⟨rfl, rfl, rfl⟩ : t291 = t330 ∧ t292 = t331 ∧ t293 = t332 := by have e_ := Option.some.inj (A4.out.symm.trans A200); simpa only [Prod.mk.injEq] using e_
   try dsimp only at H
   have A20 := Aside0.mk A200
   clear A200
   replace H := Option.bind_eq_some_iff.mp H
   obtain ⟨⟨t333, t334, t335⟩, A210, H⟩ := H
   obtain ⟨rfl, rfl, rfl⟩ : t286 = t333 ∧ t287 = t334 ∧ t288 = t335 := by have e_ := Option.some.inj (A2.out.symm.trans A210); simpa only [Prod.mk.injEq] using e_
   try dsimp only at H
   have A21 := Aside0.mk A210
   clear A210
   replace H := Option.bind_eq_some_iff.mp H
   obtain ⟨t336, A220, H⟩ := H
   try dsimp only at H
   have A22 := Aside0.mk A220
   clear A220
   by_cases c23 : t336 = true
   ·subst c23
    have H1 := H
    rw [if_pos rfl] at H1
    clear H
    have H := H1
    clear H1
    replace H := Option.bind_eq_some_iff.mp H
    obtain ⟨⟨t337, t338, t339⟩, A240, H⟩ := H
    obtain ⟨rfl, rfl, rfl⟩ : t286 = t337 ∧ t287 = t338 ∧ t288 = t339 := by have e_ := Option.some.inj (A2.out.symm.trans A240); simpa only [Prod.mk.injEq] using e_
    try dsimp only at H
    have A24 := Aside0.mk A240
    clear A240
    replace H := Option.bind_eq_some_iff.mp H
    obtain ⟨⟨t340, t341, t342⟩, A250, H⟩ := H
    try dsimp only at H
    have A25 := Aside0.mk A250
    clear A250
    replace H := Option.bind_eq_some_iff.mp H
    obtain ⟨t343, A260, H⟩ := H
    try dsimp only at H
    have A26 := Aside0.mk A260
    clear A260
    by_cases c27 : t343 = true
    ·subst c27
     have H1 := H
     rw [if_pos rfl] at H1
     clear H
     have H := H1
     clear H1
     replace H := Option.bind_eq_some_iff.mp H
     obtain ⟨⟨t344, t345, t346⟩, A280, H⟩ := H
     obtain ⟨rfl, rfl, rfl⟩ : t340 = t344 ∧ t341 = t345 ∧ t342 = t346 := by have e_ := Option.some.inj (A25.out.symm.trans A280); simpa only [Prod.mk.injEq] using e_
     try dsimp only at H
     have A28 := Aside0.mk A280
     clear A280
     replace H := Option.bind_eq_some_iff.mp H
     obtain ⟨⟨t347, t348, t349⟩, A290, H⟩ := H
     obtain ⟨rfl, rfl, rfl⟩ : t296 = t347 ∧ t297 = t348 ∧ t298 = t349 := by have e_ := Option.some.inj (A6.out.symm.trans A290); simpa only [Prod.mk.injEq] using e_
     try dsimp only at H
     have A29 := Aside0.mk A290
     clear A290
     replace H := Option.bind_eq_some_iff.mp H
     obtain ⟨t350, A300, H⟩ := H
     try dsimp only at H
     have A30 := Aside0.mk A300
     clear A300
     by_cases c31 : t350 = true
     ·subst c31
      have H1 := H
      rw [if_pos rfl] at H1
      clear H
      have H := H1
      clear H1
      replace H := Option.bind_eq_some_iff.mp H
      obtain ⟨⟨t351, t352, t353⟩, A320, H⟩ := H
      try dsimp only at H
      have A32 := Aside0.mk A320
      clear A320
      replace H := Option.bind_eq_some_iff.mp H
      obtain ⟨⟨t354, t355, t356⟩, A330, H⟩ := H
      obtain ⟨rfl, rfl, rfl⟩ : t351 = t354 ∧ t352 = t355 ∧ t353 = t356 := by have e_ := Option.some.inj (A32.out.symm.trans A330); simpa only [Prod.mk.injEq] using e_
      try dsimp only at H
      have A33 := Aside0.mk A330
      clear A330
      replace H := Option.bind_eq_some_iff.mp H
      obtain ⟨t357, A340, H⟩ := H
      try dsimp only at H
      have A34 := Aside0.mk A340
      clear A340
      replace H := Option.bind_eq_some_iff.mp H
      obtain ⟨⟨t358, t359, t360⟩, A350, H⟩ := H
      obtain ⟨rfl, rfl, rfl⟩ : t291 = t358 ∧ t292 = t359 ∧ t293 = t360 := by have e_ := Option.some.inj (A4.out.symm.trans A350); simpa only [Prod.mk.injEq] using e_
      try dsimp only at H
      have A35 := Aside0.mk A350
      clear A350
      replace H := Option.bind_eq_some_iff.mp H
      obtain ⟨t361, A360, H⟩ := H
      try dsimp only at H
      have A36 := Aside0.mk A360
      clear A360
      by_cases c37 : t361 = true
      ·subst c37
       have H1 := H
       rw [if_pos rfl] at H1
       clear H
       have H := H1
       clear H1
       replace H := Option.bind_eq_some_iff.mp H
       obtain ⟨⟨t362, t363, t364⟩, A380, H⟩ := H
       obtain ⟨rfl, rfl, rfl⟩ : t286 = t362 ∧ t287 = t363 ∧ t288 = t364 := by have e_ := Option.some.inj (A2.out.symm.trans A380); simpa only [Prod.mk.injEq] using e_
       try dsimp only at H
       have A38 := Aside0.mk A380
       clear A380
       replace H := Option.bind_eq_some_iff.mp H
       obtain ⟨t365, A390, H⟩ := H
       try dsimp only at H
       have A39 := Aside0.mk A390
       clear A390
       by_cases c40 : t365 = true
       ·subst c40
        have H1 := H
        rw [if_pos rfl] at H1
        clear H
        have H := H1
        clear H1
        replace H := Option.bind_eq_some_iff.mp H
        obtain ⟨⟨t366, t367, t368⟩, A410, H⟩ := H
        try dsimp only at H
        have A41 := Aside0.mk A410
        clear A410
        replace H := Option.bind_eq_some_iff.mp H
        obtain ⟨t369, A420, H⟩ := H
        try dsimp only at H
        have A42 := Aside0.mk A420
        clear A420
        by_cases c43 : t369 = true
        ·subst c43
         have H1 := H
         rw [if_pos rfl] at H1
         clear H
         have H := H1
         clear H1
         replace H := Option.bind_eq_some_iff.mp H
         obtain ⟨⟨t370, t371, t372⟩, A440, H⟩ := H
         obtain ⟨rfl, rfl, rfl⟩ : t296 = t370 ∧ t297 = t371 ∧ t298 = t372 := by have e_ := Option.some.inj (A6.out.symm.trans A440); simpa only [Prod.mk.injEq] using e_
         try dsimp only at H
         have A44 := Aside0.mk A440
         clear A440
         replace H := Option.bind_eq_some_iff.mp H
         obtain ⟨⟨t373, t374, t375⟩, A450, H⟩ := H
         obtain ⟨rfl, rfl, rfl⟩ : t296 = t373 ∧ t297 = t374 ∧ t298 = t375 := by have e_ := Option.some.inj (A6.out.symm.trans A450); simpa only [Prod.mk.injEq] using e_
         try dsimp only at H
         have A45 := Aside0.mk A450
         clear A450
         replace H := Option.bind_eq_some_iff.mp H
         obtain ⟨t376, A460, H⟩ := H
         try dsimp only at H
         have A46 := Aside0.mk A460
         clear A460
         by_cases c47 : t376 = true
         ·subst c47
          have H1 := H
          rw [if_pos rfl] at H1
          clear H
          have H := H1
          clear H1
          replace H := Option.bind_eq_some_iff.mp H
          obtain ⟨⟨t377, t378, t379⟩, A480, H⟩ := H
          obtain ⟨rfl, rfl, rfl⟩ : t316 = t377 ∧ t317 = t378 ∧ t318 = t379 := by have e_ := Option.some.inj (A12.out.symm.trans A480); simpa only [Prod.mk.injEq] using e_
          try dsimp only at H
          have A48 := Aside0.mk A480
          clear A480
          replace H := Option.bind_eq_some_iff.mp H
          obtain ⟨⟨t380, t381, t382⟩, A490, H⟩ := H
          obtain ⟨rfl, rfl, rfl⟩ : t296 = t380 ∧ t297 = t381 ∧ t298 = t382 := by have e_ := Option.some.inj (A6.out.symm.trans A490); simpa only [Prod.mk.injEq] using e_
          try dsimp only at H
          have A49 := Aside0.mk A490
          clear A490
          replace H := Option.bind_eq_some_iff.mp H
          obtain ⟨t383, A500, H⟩ := H
          try dsimp only at H
          have A50 := Aside0.mk A500
          clear A500
          by_cases c51 : t302 = 3
          ·rw [if_pos c51] at H
           have c51b0 : (t302 == 3) = true := beq_iff_eq.mpr c51
           have c51b1 : (t302 != 3) = false := bne_eq_false_iff_eq.mpr c51
           clear c51
           by_cases c52 : t307 = 2
           ·rw [if_pos c52] at H
            have c52b0 : (t307 == 2) = true := beq_iff_eq.mpr c52
            have c52b1 : (t307 != 2) = false := bne_eq_false_iff_eq.mpr c52
            clear c52
            by_cases c53 : t314 = 11
            ·rw [if_pos c53] at H
             have c53b0 : (t314 == 11) = true := beq_iff_eq.mpr c53
             have c53b1 : (t314 != 11) = false := bne_eq_false_iff_eq.mpr c53
             clear c53
             replace H := Option.bind_eq_some_iff.mp H
             obtain ⟨⟨t384, t385, t386⟩, A540, H⟩ := H
             try dsimp only at H
             have A54 := Aside0.mk A540
             clear A540
             replace H := Option.bind_eq_some_iff.mp H
             obtain ⟨t387, A550, H⟩ := H
             try dsimp only at H
             have A55 := Aside0.mk A550
             clear A550
             by_cases c56 : t387 = 3
             ·rw [if_pos c56] at H
              have c56b0 : (t387 == 3) = true := beq_iff_eq.mpr c56
              have c56b1 : (t387 != 3) = false := bne_eq_false_iff_eq.mpr c56
              clear c56
              replace H := Option.bind_eq_some_iff.mp H
              obtain ⟨⟨t388, t389, t390⟩, A570, H⟩ := H
              try dsimp only at H
              have A57 := Aside0.mk A570
              clear A570
              replace H := Option.bind_eq_some_iff.mp H
              obtain ⟨t391, A580, H⟩ := H
              replace H : ((tipstafflaw16_awake.f k).bind fun t392 => (if t392 = true then (if t284 = 0 then ((tipstafflaw16_at.f 0 3 0).bind fun bt393 => (if (t281 == bt393.1 && (t282 == bt393.2.1 && (t283 == bt393.2.2))) = true then (if t290 = 0 then (if t289 = 1 then (if t295 = 0 then (if t294 = 0 then (if t357 = true then (if t383 = true then (some (t391 == 2)) else (none)) else (none)) else (none)) else (none)) else (none)) else (none)) else (none))) else (none)) else (none))) = some r := H
              have A58 := Aside0.mk A580
              clear A580
              replace H := Option.bind_eq_some_iff.mp H
              obtain ⟨t392, A590, H⟩ := H
              replace H : (if t392 = true then (if t284 = 0 then ((tipstafflaw16_at.f 0 3 0).bind fun bt393 => (if (t281 == bt393.1 && (t282 == bt393.2.1 && (t283 == bt393.2.2))) = true then (if t290 = 0 then (if t289 = 1 then (if t295 = 0 then (if t294 = 0 then (if t357 = true then (if t383 = true then (some (t391 == 2)) else (none)) else (none)) else (none)) else (none)) else (none)) else (none)) else (none))) else (none)) else (none)) = some r := H
              have A59 := Aside0.mk A590
              clear A590
              by_cases c60 : t392 = true
              ·subst c60
               have H1 : (if t284 = 0 then ((tipstafflaw16_at.f 0 3 0).bind fun bt393 => (if (t281 == bt393.1 && (t282 == bt393.2.1 && (t283 == bt393.2.2))) = true then (if t290 = 0 then (if t289 = 1 then (if t295 = 0 then (if t294 = 0 then (if t357 = true then (if t383 = true then (some (t391 == 2)) else (none)) else (none)) else (none)) else (none)) else (none)) else (none)) else (none))) else (none)) = some r := by rw [if_pos rfl] at H; exact H
               clear H
               have H := H1
               clear H1
               by_cases c61 : t284 = 0
               ·rw [if_pos c61] at H
                have c61b0 : (t284 == 0) = true := beq_iff_eq.mpr c61
                have c61b1 : (t284 != 0) = false := bne_eq_false_iff_eq.mpr c61
                clear c61
                replace H := Option.bind_eq_some_iff.mp H
                obtain ⟨⟨t393, t394, t395⟩, A620, H⟩ := H
                replace H : (if (t281 == t393 && (t282 == t394 && (t283 == t395))) = true then (if t290 = 0 then (if t289 = 1 then (if t295 = 0 then (if t294 = 0 then (if t357 = true then (if t383 = true then (some (t391 == 2)) else (none)) else (none)) else (none)) else (none)) else (none)) else (none)) else (none)) = some r := H
                have A62 := Aside0.mk A620
                clear A620
                by_cases c63 : (t281 == t393 && (t282 == t394 && (t283 == t395))) = true
                ·rw [if_pos c63] at H
                 have c63b0 : (t281 == t393 && (t282 == t394 && (t283 == t395))) = true := c63
                 (try (have c63b1 : decide (t281 = t393 && (t282 == t394 && (t283 == t395))) = true := by simpa using c63))
                 (try (have c63b2 : (t281 == t393 && (t282 == t394 && (t283 == t395))) = true := by simpa using c63))
                 clear c63
                 by_cases c64 : t290 = 0
                 ·rw [if_pos c64] at H
                  have c64b0 : (t290 == 0) = true := beq_iff_eq.mpr c64
                  have c64b1 : (t290 != 0) = false := bne_eq_false_iff_eq.mpr c64
                  clear c64
                  by_cases c65 : t289 = 1
                  ·rw [if_pos c65] at H
                   have c65b0 : (t289 == 1) = true := beq_iff_eq.mpr c65
                   have c65b1 : (t289 != 1) = false := bne_eq_false_iff_eq.mpr c65
                   clear c65
                   by_cases c66 : t295 = 0
                   ·rw [if_pos c66] at H
                    have c66b0 : (t295 == 0) = true := beq_iff_eq.mpr c66
                    have c66b1 : (t295 != 0) = false := bne_eq_false_iff_eq.mpr c66
                    clear c66
                    by_cases c67 : t294 = 0
                    ·rw [if_pos c67] at H
                     have c67b0 : (t294 == 0) = true := beq_iff_eq.mpr c67
                     have c67b1 : (t294 != 0) = false := bne_eq_false_iff_eq.mpr c67
                     clear c67
                     by_cases c68 : t357 = true
                     ·subst c68
                      have H1 : (if t383 = true then (some (t391 == 2)) else (none)) = some r := by rw [if_pos rfl] at H; exact H
                      clear H
                      have H := H1
                      clear H1
                      by_cases c69 : t383 = true
                      ·subst c69
                       have H1 : (some (t391 == 2)) = some r := by rw [if_pos rfl] at H; exact H
                       clear H
                       have H := H1
                       clear H1
                       obtain rfl := Option.some.inj H
                       go_enter Try.func4, Try.ntmps4
                       try go_wp2_with (first | ((with_reducible refine gate_callee (f := 18) rfl ?_); refine goesL_ (some 17) rfl rfl Try.func18 (by kernel_rfl) rfl #[.int .i64 3] rfl (by (try simp only [List.map_toArray, List.map_cons, List.map_nil]); first | done | rfl | (simp only [List.length_drop, List.length_take]; rfl)) ?_; (with_reducible refine (panel_New.calls 3 t281 t282 t283 t284 _ A1.out).mono ?_); rintro e w70 ⟨rfl, hb⟩; refine ⟨_, rfl, ?_⟩; have n0_ := Aside0.mk (below_step (by repeat (first | (with_reducible first | exact HB.out | apply below_alloc | apply pw_below_drewN | apply below_drew1) | exact HB.out)) hb); clear HB; have HB := n0_; clear n0_; (try clear hb); (try clear hb2); (try clear hk); (try clear hi)) | ((with_reducible refine gate_dst (N := 1) rfl ?_); refine box_event ?hg (N := 1) ?hd (cs := #[.int .i64 0, .int .i64 0, .int .i64 0]) (t := 23) ?hr ?_; (case hd => rfl); (case hg => rfl); (case hr => first | (go_simp; done) | (go_simp; rfl)); intro gb285 hg w71 hbox hb; have n0_ := Aside0.mk (below_step (by repeat (first | (with_reducible first | exact HB.out | apply below_alloc | apply pw_below_drewN | apply below_drew1) | exact HB.out)) hb); have n1_ := Aside0.mk (hbox); have n2_ := Aside0.mk ((by rw [hg]; exact (below_size (by repeat (first | (with_reducible first | exact HB.out | apply below_alloc | apply pw_below_drewN | apply below_drew1) | exact HB.out))) : w.heap.size ≤ gb285)); have n3_ := Aside0.mk ((by rw [hg]; exact (below_size (by repeat (first | (with_reducible first | exact HB.out | apply below_alloc | apply pw_below_drewN | apply below_drew1) | exact HB.out))) : w.heap.size ≤ gb285)); clear HB; have HB := n0_; have BK285 := n1_; have GW285 := n2_; have GE285 := n3_; clear n0_ n1_ n2_ n3_; clear hb hbox hg; have hcz72_0 : w71.cell? ⟨gb285, 0, none⟩ = some (.int .i64 0) := (blk_cell BK285.out 0).trans rfl; have hcz72_1 : w71.cell? ⟨gb285, 1, none⟩ = some (.int .i64 0) := (blk_cell BK285.out 1).trans rfl; have hcz72_2 : w71.cell? ⟨gb285, 2, none⟩ = some (.int .i64 0) := (blk_cell BK285.out 2).trans rfl; have hfz72_0 := blk_frozen BK285.out 0; have hfz72_1 := blk_frozen BK285.out 1; have hfz72_2 := blk_frozen BK285.out 2) | ((with_reducible refine gate_callee (f := 19) rfl ?_); refine goesL_ (some 21) rfl rfl Try.func19 (by kernel_rfl) rfl #[.int .i64 2, .int .i64 3, .int .i64 (-1)] rfl (by (try simp only [List.map_toArray, List.map_cons, List.map_nil]); first | done | rfl | (simp only [List.length_drop, List.length_take]; rfl)) ?_; (with_reducible refine (tipstafflaw16_at.calls 2 3 (-1) t286 t287 t288 _ A2.out).mono ?_); rintro e w73 ⟨rfl, hb⟩; refine ⟨_, rfl, ?_⟩; have n0_ := Aside0.mk (blk_below (g := gb285) (o := .cells #[.int .i64 t281, .int .i64 t282, .int .i64 t283] 23 (0, 0)) (by (with_reducible repeat (first | refine blk_drewN ?_ _ | refine blk_drew ?_ | refine blk_alloc ?_ _)); refine blk_put (cs := #[.int .i64 t281, .int .i64 t282, .int .i64 0]) ?_ 2 _ rfl; (with_reducible repeat (first | refine blk_drewN ?_ _ | refine blk_drew ?_ | refine blk_alloc ?_ _)); refine blk_put (cs := #[.int .i64 t281, .int .i64 0, .int .i64 0]) ?_ 1 _ rfl; (with_reducible repeat (first | refine blk_drewN ?_ _ | refine blk_drew ?_ | refine blk_alloc ?_ _)); refine blk_put (cs := #[.int .i64 0, .int .i64 0, .int .i64 0]) ?_ 0 _ rfl; (with_reducible repeat (first | refine blk_drewN ?_ _ | refine blk_drew ?_ | refine blk_alloc ?_ _)); exact BK285.out) hb); have n1_ := Aside0.mk (below_step (by repeat (first | (with_reducible first | exact HB.out | apply below_alloc | apply pw_below_drewN | apply below_drew1 | refine below_set ?_ GE285.out) | exact HB.out)) hb); clear BK285; clear HB; have BK285 := n0_; have HB := n1_; clear n0_ n1_; (try clear hb); (try clear hb2); (try clear hk); (try clear hi)) | ((with_reducible refine gate_callee (f := 14) rfl ?_); refine goesL_ (some 22) rfl rfl Try.func14 (by kernel_rfl) rfl #[.agg #[.int .i64 t286, .int .i64 t287, .int .i64 t288], .int .i64 3] rfl (by (try simp only [List.map_toArray, List.map_cons, List.map_nil]); first | done | rfl | (simp only [List.length_drop, List.length_take]; rfl)) ?_; (with_reducible refine (panel_Least.calls k t286 t287 t288 3 t289 t290 _ A3.out).mono ?_); rintro e w74 ⟨rfl, hb⟩; refine ⟨_, rfl, ?_⟩; have n0_ := Aside0.mk (blk_below (g := gb285) (o := .cells #[.int .i64 t281, .int .i64 t282, .int .i64 t283] 23 (0, 0)) (by (with_reducible repeat (first | refine blk_drewN ?_ _ | refine blk_drew ?_ | refine blk_alloc ?_ _)); exact BK285.out) hb); have n1_ := Aside0.mk (below_step (by repeat (first | (with_reducible first | exact HB.out | apply below_alloc | apply pw_below_drewN | apply below_drew1 | refine below_set ?_ GE285.out) | exact HB.out)) hb); clear BK285; clear HB; have BK285 := n0_; have HB := n1_; clear n0_ n1_; (try clear hb); (try clear hb2); (try clear hk); (try clear hi)) | ((with_reducible refine gate_callee (f := 19) rfl ?_); refine goesL_ (some 26) rfl rfl Try.func19 (by kernel_rfl) rfl #[.int .i64 2, .int .i64 3, .int .i64 1] rfl (by (try simp only [List.map_toArray, List.map_cons, List.map_nil]); first | done | rfl | (simp only [List.length_drop, List.length_take]; rfl)) ?_; (with_reducible refine (tipstafflaw16_at.calls 2 3 1 t291 t292 t293 _ A4.out).mono ?_); rintro e w75 ⟨rfl, hb⟩; refine ⟨_, rfl, ?_⟩; have n0_ := Aside0.mk (blk_below (g := gb285) (o := .cells #[.int .i64 t281, .int .i64 t282, .int .i64 t283] 23 (0, 0)) (by (with_reducible repeat (first | refine blk_drewN ?_ _ | refine blk_drew ?_ | refine blk_alloc ?_ _)); exact BK285.out) hb); have n1_ := Aside0.mk (below_step (by repeat (first | (with_reducible first | exact HB.out | apply below_alloc | apply pw_below_drewN | apply below_drew1 | refine below_set ?_ GE285.out) | exact HB.out)) hb); clear BK285; clear HB; have BK285 := n0_; have HB := n1_; clear n0_ n1_; (try clear hb); (try clear hb2); (try clear hk); (try clear hi)) | ((with_reducible refine gate_callee (f := 14) rfl ?_); refine goesL_ (some 27) rfl rfl Try.func14 (by kernel_rfl) rfl #[.agg #[.int .i64 t291, .int .i64 t292, .int .i64 t293], .int .i64 2] rfl (by (try simp only [List.map_toArray, List.map_cons, List.map_nil]); first | done | rfl | (simp only [List.length_drop, List.length_take]; rfl)) ?_; (with_reducible refine (panel_Least.calls k t291 t292 t293 2 t294 t295 _ A5.out).mono ?_); rintro e w76 ⟨rfl, hb⟩; refine ⟨_, rfl, ?_⟩; have n0_ := Aside0.mk (blk_below (g := gb285) (o := .cells #[.int .i64 t281, .int .i64 t282, .int .i64 t283] 23 (0, 0)) (by (with_reducible repeat (first | refine blk_drewN ?_ _ | refine blk_drew ?_ | refine blk_alloc ?_ _)); exact BK285.out) hb); have n1_ := Aside0.mk (below_step (by repeat (first | (with_reducible first | exact HB.out | apply below_alloc | apply pw_below_drewN | apply below_drew1 | refine below_set ?_ GE285.out) | exact HB.out)) hb); clear BK285; clear HB; have BK285 := n0_; have HB := n1_; clear n0_ n1_; (try clear hb); (try clear hb2); (try clear hk); (try clear hi)) | ((with_reducible refine gate_callee (f := 19) rfl ?_); refine goesL_ (some 31) rfl rfl Try.func19 (by kernel_rfl) rfl #[.int .i64 0, .int .i64 3, .int .i64 0] rfl (by (try simp only [List.map_toArray, List.map_cons, List.map_nil]); first | done | rfl | (simp only [List.length_drop, List.length_take]; rfl)) ?_; (with_reducible refine (tipstafflaw16_at.calls 0 3 0 t296 t297 t298 _ A6.out).mono ?_); rintro e w77 ⟨rfl, hb⟩; refine ⟨_, rfl, ?_⟩; have n0_ := Aside0.mk (blk_below (g := gb285) (o := .cells #[.int .i64 t281, .int .i64 t282, .int .i64 t283] 23 (0, 0)) (by (with_reducible repeat (first | refine blk_drewN ?_ _ | refine blk_drew ?_ | refine blk_alloc ?_ _)); exact BK285.out) hb); have n1_ := Aside0.mk (below_step (by repeat (first | (with_reducible first | exact HB.out | apply below_alloc | apply pw_below_drewN | apply below_drew1 | refine below_set ?_ GE285.out) | exact HB.out)) hb); clear BK285; clear HB; have BK285 := n0_; have HB := n1_; clear n0_ n1_; (try clear hb); (try clear hb2); (try clear hk); (try clear hi)) | ((with_reducible refine gate_callee (f := 16) rfl ?_); refine goesL_ (some 32) rfl rfl Try.func16 (by kernel_rfl) rfl #[.agg #[.int .i64 t296, .int .i64 t297, .int .i64 t298], .int .i64 3, .int .i64 2] rfl (by (try simp only [List.map_toArray, List.map_cons, List.map_nil]); first | done | rfl | (simp only [List.length_drop, List.length_take]; rfl)) ?_; (with_reducible refine (panel_Orders.calls k t296 t297 t298 3 2 t299 t302 _ A7.out).mono ?_); rintro e w78 ⟨v300, rfl, ho0, hb⟩; refine ⟨_, rfl, ?_⟩; have n0_ := Aside0.mk (Kd.R_lower ho0 (below_size (by repeat (first | (with_reducible first | exact HB.out | apply below_alloc | apply pw_below_drewN | apply below_drew1 | refine below_set ?_ GE285.out) | exact HB.out)))); have n1_ := Aside0.mk (blk_below (g := gb285) (o := .cells #[.int .i64 t281, .int .i64 t282, .int .i64 t283] 23 (0, 0)) (by (with_reducible repeat (first | refine blk_drewN ?_ _ | refine blk_drew ?_ | refine blk_alloc ?_ _)); exact BK285.out) hb); have n2_ := Aside0.mk (below_step (by repeat (first | (with_reducible first | exact HB.out | apply below_alloc | apply pw_below_drewN | apply below_drew1 | refine below_set ?_ GE285.out) | exact HB.out)) hb); clear BK285; clear HB; have HO301 := n0_; have BK285 := n1_; have HB := n2_; clear n0_ n1_ n2_; (try clear hb); (try clear hb2); (try clear hk); (try clear hi); (try clear ho0)) | ((with_reducible refine gate_callee (f := 19) rfl ?_); refine goesL_ (some 36) rfl rfl Try.func19 (by kernel_rfl) rfl #[.int .i64 0, .int .i64 3, .int .i64 0] rfl (by (try simp only [List.map_toArray, List.map_cons, List.map_nil]); first | done | rfl | (simp only [List.length_drop, List.length_take]; rfl)) ?_; (with_reducible refine (tipstafflaw16_at.calls 0 3 0 t296 t297 t298 _ A8.out).mono ?_); rintro e w79 ⟨rfl, hb⟩; refine ⟨_, rfl, ?_⟩; have n0_ := Aside0.mk (Kd.R_below (by (with_reducible repeat (first | apply Kd.R_alloc | apply Kd.R_drewN | apply Kd.R_drew)); exact HO301.out) hb); have n1_ := Aside0.mk (blk_below (g := gb285) (o := .cells #[.int .i64 t281, .int .i64 t282, .int .i64 t283] 23 (0, 0)) (by (with_reducible repeat (first | refine blk_drewN ?_ _ | refine blk_drew ?_ | refine blk_alloc ?_ _)); exact BK285.out) hb); have n2_ := Aside0.mk (below_step (by repeat (first | (with_reducible first | exact HB.out | apply below_alloc | apply pw_below_drewN | apply below_drew1 | refine below_set ?_ GE285.out) | exact HB.out)) hb); clear HO301; clear BK285; clear HB; have HO301 := n0_; have BK285 := n1_; have HB := n2_; clear n0_ n1_ n2_; (try clear hb); (try clear hb2); (try clear hk); (try clear hi)) | ((with_reducible refine gate_callee (f := 14) rfl ?_); refine goesL_ (some 37) rfl rfl Try.func14 (by kernel_rfl) rfl #[.agg #[.int .i64 t296, .int .i64 t297, .int .i64 t298], .int .i64 4] rfl (by (try simp only [List.map_toArray, List.map_cons, List.map_nil]); first | done | rfl | (simp only [List.length_drop, List.length_take]; rfl)) ?_; (with_reducible refine (panel_Least.calls k t296 t297 t298 4 t306 t307 _ A9.out).mono ?_); rintro e w80 ⟨rfl, hb⟩; refine ⟨_, rfl, ?_⟩; have n0_ := Aside0.mk (Kd.R_below (by (with_reducible repeat (first | apply Kd.R_alloc | apply Kd.R_drewN | apply Kd.R_drew)); exact HO301.out) hb); have n1_ := Aside0.mk (blk_below (g := gb285) (o := .cells #[.int .i64 t281, .int .i64 t282, .int .i64 t283] 23 (0, 0)) (by (with_reducible repeat (first | refine blk_drewN ?_ _ | refine blk_drew ?_ | refine blk_alloc ?_ _)); exact BK285.out) hb); have n2_ := Aside0.mk (below_step (by repeat (first | (with_reducible first | exact HB.out | apply below_alloc | apply pw_below_drewN | apply below_drew1 | refine below_set ?_ GE285.out) | exact HB.out)) hb); clear HO301; clear BK285; clear HB; have HO301 := n0_; have BK285 := n1_; have HB := n2_; clear n0_ n1_ n2_; (try clear hb); (try clear hb2); (try clear hk); (try clear hi)) | ((with_reducible refine gate_callee (f := 19) rfl ?_); refine goesL_ (some 41) rfl rfl Try.func19 (by kernel_rfl) rfl #[.int .i64 0, .int .i64 3, .int .i64 0] rfl (by (try simp only [List.map_toArray, List.map_cons, List.map_nil]); first | done | rfl | (simp only [List.length_drop, List.length_take]; rfl)) ?_; (with_reducible refine (tipstafflaw16_at.calls 0 3 0 t296 t297 t298 _ A10.out).mono ?_); rintro e w81 ⟨rfl, hb⟩; refine ⟨_, rfl, ?_⟩; have n0_ := Aside0.mk (Kd.R_below (by (with_reducible repeat (first | apply Kd.R_alloc | apply Kd.R_drewN | apply Kd.R_drew)); exact HO301.out) hb); have n1_ := Aside0.mk (blk_below (g := gb285) (o := .cells #[.int .i64 t281, .int .i64 t282, .int .i64 t283] 23 (0, 0)) (by (with_reducible repeat (first | refine blk_drewN ?_ _ | refine blk_drew ?_ | refine blk_alloc ?_ _)); exact BK285.out) hb); have n2_ := Aside0.mk (below_step (by repeat (first | (with_reducible first | exact HB.out | apply below_alloc | apply pw_below_drewN | apply below_drew1 | refine below_set ?_ GE285.out) | exact HB.out)) hb); clear HO301; clear BK285; clear HB; have HO301 := n0_; have BK285 := n1_; have HB := n2_; clear n0_ n1_ n2_; (try clear hb); (try clear hb2); (try clear hk); (try clear hi)) | ((with_reducible refine gate_callee (f := 20) rfl ?_); refine goesL_ (some 42) rfl rfl Try.func20 (by kernel_rfl) rfl #[.agg #[.int .i64 t296, .int .i64 t297, .int .i64 t298], .int .i64 5] rfl (by (try simp only [List.map_toArray, List.map_cons, List.map_nil]); first | done | rfl | (simp only [List.length_drop, List.length_take]; rfl)) ?_; (with_reducible refine (panel_Order.calls k t296 t297 t298 5 t311 t312 t313 t314 _ A11.out).mono ?_); rintro e w82 ⟨rfl, hb⟩; refine ⟨_, rfl, ?_⟩; have n0_ := Aside0.mk (Kd.R_below (by (with_reducible repeat (first | apply Kd.R_alloc | apply Kd.R_drewN | apply Kd.R_drew)); exact HO301.out) hb); have n1_ := Aside0.mk (blk_below (g := gb285) (o := .cells #[.int .i64 t281, .int .i64 t282, .int .i64 t283] 23 (0, 0)) (by (with_reducible repeat (first | refine blk_drewN ?_ _ | refine blk_drew ?_ | refine blk_alloc ?_ _)); exact BK285.out) hb); have n2_ := Aside0.mk (below_step (by repeat (first | (with_reducible first | exact HB.out | apply below_alloc | apply pw_below_drewN | apply below_drew1 | refine below_set ?_ GE285.out) | exact HB.out)) hb); clear HO301; clear BK285; clear HB; have HO301 := n0_; have BK285 := n1_; have HB := n2_; clear n0_ n1_ n2_; (try clear hb); (try clear hb2); (try clear hk); (try clear hi)) | ((with_reducible refine gate_dst (N := 11) rfl ?_); refine box_event ?hg (N := 11) ?hd (cs := #[.int .i64 0, .int .i64 0, .int .i64 0]) (t := 23) ?hr ?_; (case hd => rfl); (case hg => rfl); (case hr => first | (go_simp; done) | (go_simp; rfl)); intro gb315 hg w83 hbox hb; have n0_ := Aside0.mk (Kd.R_below (by (with_reducible repeat (first | apply Kd.R_alloc | apply Kd.R_drewN | apply Kd.R_drew)); exact HO301.out) hb); have n1_ := Aside0.mk (blk_below (g := gb285) (o := .cells #[.int .i64 t281, .int .i64 t282, .int .i64 t283] 23 (0, 0)) (by (with_reducible repeat (first | refine blk_drewN ?_ _ | refine blk_drew ?_ | refine blk_alloc ?_ _)); exact BK285.out) hb); have n2_ := Aside0.mk (below_step (by repeat (first | (with_reducible first | exact HB.out | apply below_alloc | apply pw_below_drewN | apply below_drew1 | refine below_set ?_ GE285.out) | exact HB.out)) hb); have n3_ := Aside0.mk (hbox); have n4_ := Aside0.mk ((by rw [hg]; exact (below_size (by repeat (first | (with_reducible first | exact HB.out | apply below_alloc | apply pw_below_drewN | apply below_drew1 | refine below_set ?_ GE285.out) | exact HB.out))) : w.heap.size ≤ gb315)); have n5_ := Aside0.mk ((by rw [hg]; exact (below_size (by repeat (first | (with_reducible first | exact HB.out | apply below_alloc | apply pw_below_drewN | apply below_drew1 | refine below_set ?_ GE285.out) | exact HB.out))) : w.heap.size ≤ gb315)); have n6_ := Aside0.mk ((by rw [hg]; exact Nat.ne_of_lt (blk_lt (g := gb285) (o := .cells #[.int .i64 t281, .int .i64 t282, .int .i64 t283] 23 (0, 0)) (by (with_reducible repeat (first | refine blk_drewN ?_ _ | refine blk_drew ?_ | refine blk_alloc ?_ _)); exact BK285.out)) : gb285 ≠ gb315)); have n7_ := Aside0.mk ((by rw [hg]; exact Nat.ne_of_gt (blk_lt (g := gb285) (o := .cells #[.int .i64 t281, .int .i64 t282, .int .i64 t283] 23 (0, 0)) (by (with_reducible repeat (first | refine blk_drewN ?_ _ | refine blk_drew ?_ | refine blk_alloc ?_ _)); exact BK285.out)) : gb315 ≠ gb285)); clear HO301; clear BK285; clear HB; have HO301 := n0_; have BK285 := n1_; have HB := n2_; have BK315 := n3_; have GW315 := n4_; have GE315 := n5_; have NB285_315 := n6_; have NB315_285 := n7_; clear n0_ n1_ n2_ n3_ n4_ n5_ n6_ n7_; clear hb hbox hg; have hnb84 := NB315_285.out; have hnc84 := NB285_315.out; have hcz85_0 : w83.cell? ⟨gb315, 0, none⟩ = some (.int .i64 0) := (blk_cell BK315.out 0).trans rfl; have hcz85_1 : w83.cell? ⟨gb315, 1, none⟩ = some (.int .i64 0) := (blk_cell BK315.out 1).trans rfl; have hcz85_2 : w83.cell? ⟨gb315, 2, none⟩ = some (.int .i64 0) := (blk_cell BK315.out 2).trans rfl; have hfz85_0 := blk_frozen BK315.out 0; have hfz85_1 := blk_frozen BK315.out 1; have hfz85_2 := blk_frozen BK315.out 2) | ((with_reducible refine gate_callee (f := 19) rfl ?_); refine goesL_ (some 45) rfl rfl Try.func19 (by kernel_rfl) rfl #[.int .i64 0, .int .i64 3, .int .i64 1] rfl (by (try simp only [List.map_toArray, List.map_cons, List.map_nil]); first | done | rfl | (simp only [List.length_drop, List.length_take]; rfl)) ?_; (with_reducible refine (tipstafflaw16_at.calls 0 3 1 t316 t317 t318 _ A12.out).mono ?_); rintro e w86 ⟨rfl, hb⟩; refine ⟨_, rfl, ?_⟩; have n0_ := Aside0.mk (Kd.R_below (by (with_reducible repeat (first | apply Kd.R_alloc | apply Kd.R_drewN | apply Kd.R_drew)); exact (Kd.R_mono (Kd.R_far (p := ⟨gb315, 2, none⟩) (Kd.R_far (p := ⟨gb315, 1, none⟩) (Kd.R_far (p := ⟨gb315, 0, none⟩) (Kd.R_types HO301.out BK315.out (by decide)) (fun _ hk => hk.2) (.int .i64 t311)) (fun _ hk => hk.2) (.int .i64 t312)) (fun _ hk => hk.2) (.int .i64 t313)) (fun _ h_ => h_.1))) hb); have n1_ := Aside0.mk (blk_below (g := gb285) (o := .cells #[.int .i64 t281, .int .i64 t282, .int .i64 t283] 23 (0, 0)) (by (with_reducible repeat (first | refine blk_drewN ?_ _ | refine blk_drew ?_ | refine blk_alloc ?_ _)); refine blk_far ?_ NB285_315.out _; (with_reducible repeat (first | refine blk_drewN ?_ _ | refine blk_drew ?_ | refine blk_alloc ?_ _)); refine blk_far ?_ NB285_315.out _; (with_reducible repeat (first | refine blk_drewN ?_ _ | refine blk_drew ?_ | refine blk_alloc ?_ _)); refine blk_far ?_ NB285_315.out _; (with_reducible repeat (first | refine blk_drewN ?_ _ | refine blk_drew ?_ | refine blk_alloc ?_ _)); exact BK285.out) hb); have n2_ := Aside0.mk (blk_below (g := gb315) (o := .cells #[.int .i64 t311, .int .i64 t312, .int .i64 t313] 23 (0, 0)) (by (with_reducible repeat (first | refine blk_drewN ?_ _ | refine blk_drew ?_ | refine blk_alloc ?_ _)); refine blk_put (cs := #[.int .i64 t311, .int .i64 t312, .int .i64 0]) ?_ 2 _ rfl; (with_reducible repeat (first | refine blk_drewN ?_ _ | refine blk_drew ?_ | refine blk_alloc ?_ _)); refine blk_put (cs := #[.int .i64 t311, .int .i64 0, .int .i64 0]) ?_ 1 _ rfl; (with_reducible repeat (first | refine blk_drewN ?_ _ | refine blk_drew ?_ | refine blk_alloc ?_ _)); refine blk_put (cs := #[.int .i64 0, .int .i64 0, .int .i64 0]) ?_ 0 _ rfl; (with_reducible repeat (first | refine blk_drewN ?_ _ | refine blk_drew ?_ | refine blk_alloc ?_ _)); exact BK315.out) hb); have n3_ := Aside0.mk (below_step (by repeat (first | (with_reducible first | exact HB.out | apply below_alloc | apply pw_below_drewN | apply below_drew1 | refine below_set ?_ GE285.out | refine below_set ?_ GE315.out) | exact HB.out)) hb); clear HO301; clear BK285; clear BK315; clear HB; have HO301 := n0_; have BK285 := n1_; have BK315 := n2_; have HB := n3_; clear n0_ n1_ n2_ n3_; (try clear hb); (try clear hb2); (try clear hk); (try clear hi)) | ((with_reducible refine gate_callee (f := 19) rfl ?_); refine goesL_ (some 46) rfl rfl Try.func19 (by kernel_rfl) rfl #[.int .i64 1, .int .i64 3, .int .i64 1] rfl (by (try simp only [List.map_toArray, List.map_cons, List.map_nil]); first | done | rfl | (simp only [List.length_drop, List.length_take]; rfl)) ?_; (with_reducible refine (tipstafflaw16_at.calls 1 3 1 t319 t320 t321 _ A13.out).mono ?_); rintro e w87 ⟨rfl, hb⟩; refine ⟨_, rfl, ?_⟩; have n0_ := Aside0.mk (Kd.R_below (by (with_reducible repeat (first | apply Kd.R_alloc | apply Kd.R_drewN | apply Kd.R_drew)); exact HO301.out) hb); have n1_ := Aside0.mk (blk_below (g := gb285) (o := .cells #[.int .i64 t281, .int .i64 t282, .int .i64 t283] 23 (0, 0)) (by (with_reducible repeat (first | refine blk_drewN ?_ _ | refine blk_drew ?_ | refine blk_alloc ?_ _)); exact BK285.out) hb); have n2_ := Aside0.mk (blk_below (g := gb315) (o := .cells #[.int .i64 t311, .int .i64 t312, .int .i64 t313] 23 (0, 0)) (by (with_reducible repeat (first | refine blk_drewN ?_ _ | refine blk_drew ?_ | refine blk_alloc ?_ _)); exact BK315.out) hb); have n3_ := Aside0.mk (below_step (by repeat (first | (with_reducible first | exact HB.out | apply below_alloc | apply pw_below_drewN | apply below_drew1 | refine below_set ?_ GE285.out | refine below_set ?_ GE315.out) | exact HB.out)) hb); clear HO301; clear BK285; clear BK315; clear HB; have HO301 := n0_; have BK285 := n1_; have BK315 := n2_; have HB := n3_; clear n0_ n1_ n2_ n3_; (try clear hb); (try clear hb2); (try clear hk); (try clear hi)) | ((with_reducible refine gate_callee (f := 21) rfl ?_); refine goesL_ (some 47) rfl rfl Try.func21 (by kernel_rfl) rfl #[.agg #[.int .i64 t316, .int .i64 t317, .int .i64 t318], .agg #[.int .i64 t319, .int .i64 t320, .int .i64 t321], .int .i64 0] rfl (by (try simp only [List.map_toArray, List.map_cons, List.map_nil]); first | done | rfl | (simp only [List.length_drop, List.length_take]; rfl)) ?_; (with_reducible refine (tipstafflaw16_steps.calls k t316 t317 t318 t319 t320 t321 0 true _ A14.out).mono ?_); rintro e w88 ⟨rfl, hb⟩; refine ⟨_, rfl, ?_⟩; have n0_ := Aside0.mk (Kd.R_below (by (with_reducible repeat (first | apply Kd.R_alloc | apply Kd.R_drewN | apply Kd.R_drew)); exact HO301.out) hb); have n1_ := Aside0.mk (blk_below (g := gb285) (o := .cells #[.int .i64 t281, .int .i64 t282, .int .i64 t283] 23 (0, 0)) (by (with_reducible repeat (first | refine blk_drewN ?_ _ | refine blk_drew ?_ | refine blk_alloc ?_ _)); exact BK285.out) hb); have n2_ := Aside0.mk (blk_below (g := gb315) (o := .cells #[.int .i64 t311, .int .i64 t312, .int .i64 t313] 23 (0, 0)) (by (with_reducible repeat (first | refine blk_drewN ?_ _ | refine blk_drew ?_ | refine blk_alloc ?_ _)); exact BK315.out) hb); have n3_ := Aside0.mk (below_step (by repeat (first | (with_reducible first | exact HB.out | apply below_alloc | apply pw_below_drewN | apply below_drew1 | refine below_set ?_ GE285.out | refine below_set ?_ GE315.out) | exact HB.out)) hb); clear HO301; clear BK285; clear BK315; clear HB; have HO301 := n0_; have BK285 := n1_; have BK315 := n2_; have HB := n3_; clear n0_ n1_ n2_ n3_; (try clear hb); (try clear hb2); (try clear hk); (try clear hi)) | (go_at_call 19; (with_reducible refine (tipstafflaw16_at.calls 1 3 1 t319 t320 t321 _ A16.out).mono ?_); rintro e w89 ⟨rfl, hb⟩; have n0_ := Aside0.mk (Kd.R_below (by (with_reducible repeat (first | apply Kd.R_alloc | apply Kd.R_drewN | apply Kd.R_drew)); exact HO301.out) hb); have n1_ := Aside0.mk (blk_below (g := gb285) (o := .cells #[.int .i64 t281, .int .i64 t282, .int .i64 t283] 23 (0, 0)) (by (with_reducible repeat (first | refine blk_drewN ?_ _ | refine blk_drew ?_ | refine blk_alloc ?_ _)); exact BK285.out) hb); have n2_ := Aside0.mk (blk_below (g := gb315) (o := .cells #[.int .i64 t311, .int .i64 t312, .int .i64 t313] 23 (0, 0)) (by (with_reducible repeat (first | refine blk_drewN ?_ _ | refine blk_drew ?_ | refine blk_alloc ?_ _)); exact BK315.out) hb); have n3_ := Aside0.mk (below_step (by repeat (first | (with_reducible first | exact HB.out | apply below_alloc | apply pw_below_drewN | apply below_drew1 | refine below_set ?_ GE285.out | refine below_set ?_ GE315.out) | exact HB.out)) hb); clear HO301; clear BK285; clear BK315; clear HB; have HO301 := n0_; have BK285 := n1_; have BK315 := n2_; have HB := n3_; clear n0_ n1_ n2_ n3_; (try clear hb); (try clear hb2); (try clear hk); (try clear hi)) | (go_at_call 19; (with_reducible refine (tipstafflaw16_at.calls 2 3 1 t291 t292 t293 _ A17.out).mono ?_); rintro e w90 ⟨rfl, hb⟩; have n0_ := Aside0.mk (Kd.R_below (by (with_reducible repeat (first | apply Kd.R_alloc | apply Kd.R_drewN | apply Kd.R_drew)); exact HO301.out) hb); have n1_ := Aside0.mk (blk_below (g := gb285) (o := .cells #[.int .i64 t281, .int .i64 t282, .int .i64 t283] 23 (0, 0)) (by (with_reducible repeat (first | refine blk_drewN ?_ _ | refine blk_drew ?_ | refine blk_alloc ?_ _)); exact BK285.out) hb); have n2_ := Aside0.mk (blk_below (g := gb315) (o := .cells #[.int .i64 t311, .int .i64 t312, .int .i64 t313] 23 (0, 0)) (by (with_reducible repeat (first | refine blk_drewN ?_ _ | refine blk_drew ?_ | refine blk_alloc ?_ _)); exact BK315.out) hb); have n3_ := Aside0.mk (below_step (by repeat (first | (with_reducible first | exact HB.out | apply below_alloc | apply pw_below_drewN | apply below_drew1 | refine below_set ?_ GE285.out | refine below_set ?_ GE315.out) | exact HB.out)) hb); clear HO301; clear BK285; clear BK315; clear HB; have HO301 := n0_; have BK285 := n1_; have BK315 := n2_; have HB := n3_; clear n0_ n1_ n2_ n3_; (try clear hb); (try clear hb2); (try clear hk); (try clear hi)) | (go_at_call 21; (with_reducible refine (tipstafflaw16_steps.calls k t319 t320 t321 t291 t292 t293 0 true _ A18.out).mono ?_); rintro e w91 ⟨rfl, hb⟩; have n0_ := Aside0.mk (Kd.R_below (by (with_reducible repeat (first | apply Kd.R_alloc | apply Kd.R_drewN | apply Kd.R_drew)); exact HO301.out) hb); have n1_ := Aside0.mk (blk_below (g := gb285) (o := .cells #[.int .i64 t281, .int .i64 t282, .int .i64 t283] 23 (0, 0)) (by (with_reducible repeat (first | refine blk_drewN ?_ _ | refine blk_drew ?_ | refine blk_alloc ?_ _)); exact BK285.out) hb); have n2_ := Aside0.mk (blk_below (g := gb315) (o := .cells #[.int .i64 t311, .int .i64 t312, .int .i64 t313] 23 (0, 0)) (by (with_reducible repeat (first | refine blk_drewN ?_ _ | refine blk_drew ?_ | refine blk_alloc ?_ _)); exact BK315.out) hb); have n3_ := Aside0.mk (below_step (by repeat (first | (with_reducible first | exact HB.out | apply below_alloc | apply pw_below_drewN | apply below_drew1 | refine below_set ?_ GE285.out | refine below_set ?_ GE315.out) | exact HB.out)) hb); clear HO301; clear BK285; clear BK315; clear HB; have HO301 := n0_; have BK285 := n1_; have BK315 := n2_; have HB := n3_; clear n0_ n1_ n2_ n3_; (try clear hb); (try clear hb2); (try clear hk); (try clear hi)) | (go_at_call 19; (with_reducible refine (tipstafflaw16_at.calls 2 3 1 t291 t292 t293 _ A20.out).mono ?_); rintro e w92 ⟨rfl, hb⟩; have n0_ := Aside0.mk (Kd.R_below (by (with_reducible repeat (first | apply Kd.R_alloc | apply Kd.R_drewN | apply Kd.R_drew)); exact HO301.out) hb); have n1_ := Aside0.mk (blk_below (g := gb285) (o := .cells #[.int .i64 t281, .int .i64 t282, .int .i64 t283] 23 (0, 0)) (by (with_reducible repeat (first | refine blk_drewN ?_ _ | refine blk_drew ?_ | refine blk_alloc ?_ _)); exact BK285.out) hb); have n2_ := Aside0.mk (blk_below (g := gb315) (o := .cells #[.int .i64 t311, .int .i64 t312, .int .i64 t313] 23 (0, 0)) (by (with_reducible repeat (first | refine blk_drewN ?_ _ | refine blk_drew ?_ | refine blk_alloc ?_ _)); exact BK315.out) hb); have n3_ := Aside0.mk (below_step (by repeat (first | (with_reducible first | exact HB.out | apply below_alloc | apply pw_below_drewN | apply below_drew1 | refine below_set ?_ GE285.out | refine below_set ?_ GE315.out) | exact HB.out)) hb); clear HO301; clear BK285; clear BK315; clear HB; have HO301 := n0_; have BK285 := n1_; have BK315 := n2_; have HB := n3_; clear n0_ n1_ n2_ n3_; (try clear hb); (try clear hb2); (try clear hk); (try clear hi)) | (go_at_call 19; (with_reducible refine (tipstafflaw16_at.calls 2 3 (-1) t286 t287 t288 _ A21.out).mono ?_); rintro e w93 ⟨rfl, hb⟩; have n0_ := Aside0.mk (Kd.R_below (by (with_reducible repeat (first | apply Kd.R_alloc | apply Kd.R_drewN | apply Kd.R_drew)); exact HO301.out) hb); have n1_ := Aside0.mk (blk_below (g := gb285) (o := .cells #[.int .i64 t281, .int .i64 t282, .int .i64 t283] 23 (0, 0)) (by (with_reducible repeat (first | refine blk_drewN ?_ _ | refine blk_drew ?_ | refine blk_alloc ?_ _)); exact BK285.out) hb); have n2_ := Aside0.mk (blk_below (g := gb315) (o := .cells #[.int .i64 t311, .int .i64 t312, .int .i64 t313] 23 (0, 0)) (by (with_reducible repeat (first | refine blk_drewN ?_ _ | refine blk_drew ?_ | refine blk_alloc ?_ _)); exact BK315.out) hb); have n3_ := Aside0.mk (below_step (by repeat (first | (with_reducible first | exact HB.out | apply below_alloc | apply pw_below_drewN | apply below_drew1 | refine below_set ?_ GE285.out | refine below_set ?_ GE315.out) | exact HB.out)) hb); clear HO301; clear BK285; clear BK315; clear HB; have HO301 := n0_; have BK285 := n1_; have BK315 := n2_; have HB := n3_; clear n0_ n1_ n2_ n3_; (try clear hb); (try clear hb2); (try clear hk); (try clear hi)) | (go_at_call 22; (with_reducible refine (tipstafflaw16_told.calls k t291 t292 t293 4 t286 t287 t288 true _ A22.out).mono ?_); rintro e w94 ⟨rfl, hb⟩; have n0_ := Aside0.mk (Kd.R_below (by (with_reducible repeat (first | apply Kd.R_alloc | apply Kd.R_drewN | apply Kd.R_drew)); exact HO301.out) hb); have n1_ := Aside0.mk (blk_below (g := gb285) (o := .cells #[.int .i64 t281, .int .i64 t282, .int .i64 t283] 23 (0, 0)) (by (with_reducible repeat (first | refine blk_drewN ?_ _ | refine blk_drew ?_ | refine blk_alloc ?_ _)); exact BK285.out) hb); have n2_ := Aside0.mk (blk_below (g := gb315) (o := .cells #[.int .i64 t311, .int .i64 t312, .int .i64 t313] 23 (0, 0)) (by (with_reducible repeat (first | refine blk_drewN ?_ _ | refine blk_drew ?_ | refine blk_alloc ?_ _)); exact BK315.out) hb); have n3_ := Aside0.mk (below_step (by repeat (first | (with_reducible first | exact HB.out | apply below_alloc | apply pw_below_drewN | apply below_drew1 | refine below_set ?_ GE285.out | refine below_set ?_ GE315.out) | exact HB.out)) hb); clear HO301; clear BK285; clear BK315; clear HB; have HO301 := n0_; have BK285 := n1_; have BK315 := n2_; have HB := n3_; clear n0_ n1_ n2_ n3_; (try clear hb); (try clear hb2); (try clear hk); (try clear hi)) | (go_at_call 19; (with_reducible refine (tipstafflaw16_at.calls 2 3 (-1) t286 t287 t288 _ A24.out).mono ?_); rintro e w95 ⟨rfl, hb⟩; have n0_ := Aside0.mk (Kd.R_below (by (with_reducible repeat (first | apply Kd.R_alloc | apply Kd.R_drewN | apply Kd.R_drew)); exact HO301.out) hb); have n1_ := Aside0.mk (blk_below (g := gb285) (o := .cells #[.int .i64 t281, .int .i64 t282, .int .i64 t283] 23 (0, 0)) (by (with_reducible repeat (first | refine blk_drewN ?_ _ | refine blk_drew ?_ | refine blk_alloc ?_ _)); exact BK285.out) hb); have n2_ := Aside0.mk (blk_below (g := gb315) (o := .cells #[.int .i64 t311, .int .i64 t312, .int .i64 t313] 23 (0, 0)) (by (with_reducible repeat (first | refine blk_drewN ?_ _ | refine blk_drew ?_ | refine blk_alloc ?_ _)); exact BK315.out) hb); have n3_ := Aside0.mk (below_step (by repeat (first | (with_reducible first | exact HB.out | apply below_alloc | apply pw_below_drewN | apply below_drew1 | refine below_set ?_ GE285.out | refine below_set ?_ GE315.out) | exact HB.out)) hb); clear HO301; clear BK285; clear BK315; clear HB; have HO301 := n0_; have BK285 := n1_; have BK315 := n2_; have HB := n3_; clear n0_ n1_ n2_ n3_; (try clear hb); (try clear hb2); (try clear hk); (try clear hi)) | (go_at_call 19; (with_reducible refine (tipstafflaw16_at.calls 1 3 (-1) t340 t341 t342 _ A25.out).mono ?_); rintro e w96 ⟨rfl, hb⟩; have n0_ := Aside0.mk (Kd.R_below (by (with_reducible repeat (first | apply Kd.R_alloc | apply Kd.R_drewN | apply Kd.R_drew)); exact HO301.out) hb); have n1_ := Aside0.mk (blk_below (g := gb285) (o := .cells #[.int .i64 t281, .int .i64 t282, .int .i64 t283] 23 (0, 0)) (by (with_reducible repeat (first | refine blk_drewN ?_ _ | refine blk_drew ?_ | refine blk_alloc ?_ _)); exact BK285.out) hb); have n2_ := Aside0.mk (blk_below (g := gb315) (o := .cells #[.int .i64 t311, .int .i64 t312, .int .i64 t313] 23 (0, 0)) (by (with_reducible repeat (first | refine blk_drewN ?_ _ | refine blk_drew ?_ | refine blk_alloc ?_ _)); exact BK315.out) hb); have n3_ := Aside0.mk (below_step (by repeat (first | (with_reducible first | exact HB.out | apply below_alloc | apply pw_below_drewN | apply below_drew1 | refine below_set ?_ GE285.out | refine below_set ?_ GE315.out) | exact HB.out)) hb); clear HO301; clear BK285; clear BK315; clear HB; have HO301 := n0_; have BK285 := n1_; have BK315 := n2_; have HB := n3_; clear n0_ n1_ n2_ n3_; (try clear hb); (try clear hb2); (try clear hk); (try clear hi)) | (go_at_call 21; (with_reducible refine (tipstafflaw16_steps.calls k t286 t287 t288 t340 t341 t342 0 true _ A26.out).mono ?_); rintro e w97 ⟨rfl, hb⟩; have n0_ := Aside0.mk (Kd.R_below (by (with_reducible repeat (first | apply Kd.R_alloc | apply Kd.R_drewN | apply Kd.R_drew)); exact HO301.out) hb); have n1_ := Aside0.mk (blk_below (g := gb285) (o := .cells #[.int .i64 t281, .int .i64 t282, .int .i64 t283] 23 (0, 0)) (by (with_reducible repeat (first | refine blk_drewN ?_ _ | refine blk_drew ?_ | refine blk_alloc ?_ _)); exact BK285.out) hb); have n2_ := Aside0.mk (blk_below (g := gb315) (o := .cells #[.int .i64 t311, .int .i64 t312, .int .i64 t313] 23 (0, 0)) (by (with_reducible repeat (first | refine blk_drewN ?_ _ | refine blk_drew ?_ | refine blk_alloc ?_ _)); exact BK315.out) hb); have n3_ := Aside0.mk (below_step (by repeat (first | (with_reducible first | exact HB.out | apply below_alloc | apply pw_below_drewN | apply below_drew1 | refine below_set ?_ GE285.out | refine below_set ?_ GE315.out) | exact HB.out)) hb); clear HO301; clear BK285; clear BK315; clear HB; have HO301 := n0_; have BK285 := n1_; have BK315 := n2_; have HB := n3_; clear n0_ n1_ n2_ n3_; (try clear hb); (try clear hb2); (try clear hk); (try clear hi)) | (go_at_call 19; (with_reducible refine (tipstafflaw16_at.calls 1 3 (-1) t340 t341 t342 _ A28.out).mono ?_); rintro e w98 ⟨rfl, hb⟩; have n0_ := Aside0.mk (Kd.R_below (by (with_reducible repeat (first | apply Kd.R_alloc | apply Kd.R_drewN | apply Kd.R_drew)); exact HO301.out) hb); have n1_ := Aside0.mk (blk_below (g := gb285) (o := .cells #[.int .i64 t281, .int .i64 t282, .int .i64 t283] 23 (0, 0)) (by (with_reducible repeat (first | refine blk_drewN ?_ _ | refine blk_drew ?_ | refine blk_alloc ?_ _)); exact BK285.out) hb); have n2_ := Aside0.mk (blk_below (g := gb315) (o := .cells #[.int .i64 t311, .int .i64 t312, .int .i64 t313] 23 (0, 0)) (by (with_reducible repeat (first | refine blk_drewN ?_ _ | refine blk_drew ?_ | refine blk_alloc ?_ _)); exact BK315.out) hb); have n3_ := Aside0.mk (below_step (by repeat (first | (with_reducible first | exact HB.out | apply below_alloc | apply pw_below_drewN | apply below_drew1 | refine below_set ?_ GE285.out | refine below_set ?_ GE315.out) | exact HB.out)) hb); clear HO301; clear BK285; clear BK315; clear HB; have HO301 := n0_; have BK285 := n1_; have BK315 := n2_; have HB := n3_; clear n0_ n1_ n2_ n3_; (try clear hb); (try clear hb2); (try clear hk); (try clear hi)) | (go_at_call 19; (with_reducible refine (tipstafflaw16_at.calls 0 3 0 t296 t297 t298 _ A29.out).mono ?_); rintro e w99 ⟨rfl, hb⟩; have n0_ := Aside0.mk (Kd.R_below (by (with_reducible repeat (first | apply Kd.R_alloc | apply Kd.R_drewN | apply Kd.R_drew)); exact HO301.out) hb); have n1_ := Aside0.mk (blk_below (g := gb285) (o := .cells #[.int .i64 t281, .int .i64 t282, .int .i64 t283] 23 (0, 0)) (by (with_reducible repeat (first | refine blk_drewN ?_ _ | refine blk_drew ?_ | refine blk_alloc ?_ _)); exact BK285.out) hb); have n2_ := Aside0.mk (blk_below (g := gb315) (o := .cells #[.int .i64 t311, .int .i64 t312, .int .i64 t313] 23 (0, 0)) (by (with_reducible repeat (first | refine blk_drewN ?_ _ | refine blk_drew ?_ | refine blk_alloc ?_ _)); exact BK315.out) hb); have n3_ := Aside0.mk (below_step (by repeat (first | (with_reducible first | exact HB.out | apply below_alloc | apply pw_below_drewN | apply below_drew1 | refine below_set ?_ GE285.out | refine below_set ?_ GE315.out) | exact HB.out)) hb); clear HO301; clear BK285; clear BK315; clear HB; have HO301 := n0_; have BK285 := n1_; have BK315 := n2_; have HB := n3_; clear n0_ n1_ n2_ n3_; (try clear hb); (try clear hb2); (try clear hk); (try clear hi)) | (go_at_call 21; (with_reducible refine (tipstafflaw16_steps.calls k t340 t341 t342 t296 t297 t298 (-1) true _ A30.out).mono ?_); rintro e w100 ⟨rfl, hb⟩; have n0_ := Aside0.mk (Kd.R_below (by (with_reducible repeat (first | apply Kd.R_alloc | apply Kd.R_drewN | apply Kd.R_drew)); exact HO301.out) hb); have n1_ := Aside0.mk (blk_below (g := gb285) (o := .cells #[.int .i64 t281, .int .i64 t282, .int .i64 t283] 23 (0, 0)) (by (with_reducible repeat (first | refine blk_drewN ?_ _ | refine blk_drew ?_ | refine blk_alloc ?_ _)); exact BK285.out) hb); have n2_ := Aside0.mk (blk_below (g := gb315) (o := .cells #[.int .i64 t311, .int .i64 t312, .int .i64 t313] 23 (0, 0)) (by (with_reducible repeat (first | refine blk_drewN ?_ _ | refine blk_drew ?_ | refine blk_alloc ?_ _)); exact BK315.out) hb); have n3_ := Aside0.mk (below_step (by repeat (first | (with_reducible first | exact HB.out | apply below_alloc | apply pw_below_drewN | apply below_drew1 | refine below_set ?_ GE285.out | refine below_set ?_ GE315.out) | exact HB.out)) hb); clear HO301; clear BK285; clear BK315; clear HB; have HO301 := n0_; have BK285 := n1_; have BK315 := n2_; have HB := n3_; clear n0_ n1_ n2_ n3_; (try clear hb); (try clear hb2); (try clear hk); (try clear hi)) | (go_at_call 19; (with_reducible refine (tipstafflaw16_at.calls 1 3 0 t351 t352 t353 _ A32.out).mono ?_); rintro e w101 ⟨rfl, hb⟩; have n0_ := Aside0.mk (Kd.R_below (by (with_reducible repeat (first | apply Kd.R_alloc | apply Kd.R_drewN | apply Kd.R_drew)); exact HO301.out) hb); have n1_ := Aside0.mk (blk_below (g := gb285) (o := .cells #[.int .i64 t281, .int .i64 t282, .int .i64 t283] 23 (0, 0)) (by (with_reducible repeat (first | refine blk_drewN ?_ _ | refine blk_drew ?_ | refine blk_alloc ?_ _)); exact BK285.out) hb); have n2_ := Aside0.mk (blk_below (g := gb315) (o := .cells #[.int .i64 t311, .int .i64 t312, .int .i64 t313] 23 (0, 0)) (by (with_reducible repeat (first | refine blk_drewN ?_ _ | refine blk_drew ?_ | refine blk_alloc ?_ _)); exact BK315.out) hb); have n3_ := Aside0.mk (below_step (by repeat (first | (with_reducible first | exact HB.out | apply below_alloc | apply pw_below_drewN | apply below_drew1 | refine below_set ?_ GE285.out | refine below_set ?_ GE315.out) | exact HB.out)) hb); clear HO301; clear BK285; clear BK315; clear HB; have HO301 := n0_; have BK285 := n1_; have BK315 := n2_; have HB := n3_; clear n0_ n1_ n2_ n3_; (try clear hb); (try clear hb2); (try clear hk); (try clear hi)) | (go_at_call 19; (with_reducible refine (tipstafflaw16_at.calls 1 3 0 t351 t352 t353 _ A33.out).mono ?_); rintro e w102 ⟨rfl, hb⟩; have n0_ := Aside0.mk (Kd.R_below (by (with_reducible repeat (first | apply Kd.R_alloc | apply Kd.R_drewN | apply Kd.R_drew)); exact HO301.out) hb); have n1_ := Aside0.mk (blk_below (g := gb285) (o := .cells #[.int .i64 t281, .int .i64 t282, .int .i64 t283] 23 (0, 0)) (by (with_reducible repeat (first | refine blk_drewN ?_ _ | refine blk_drew ?_ | refine blk_alloc ?_ _)); exact BK285.out) hb); have n2_ := Aside0.mk (blk_below (g := gb315) (o := .cells #[.int .i64 t311, .int .i64 t312, .int .i64 t313] 23 (0, 0)) (by (with_reducible repeat (first | refine blk_drewN ?_ _ | refine blk_drew ?_ | refine blk_alloc ?_ _)); exact BK315.out) hb); have n3_ := Aside0.mk (below_step (by repeat (first | (with_reducible first | exact HB.out | apply below_alloc | apply pw_below_drewN | apply below_drew1 | refine below_set ?_ GE285.out | refine below_set ?_ GE315.out) | exact HB.out)) hb); clear HO301; clear BK285; clear BK315; clear HB; have HO301 := n0_; have BK285 := n1_; have BK315 := n2_; have HB := n3_; clear n0_ n1_ n2_ n3_; (try clear hb); (try clear hb2); (try clear hk); (try clear hi)) | (go_at_call 21; (with_reducible refine (tipstafflaw16_steps.calls k t351 t352 t353 t351 t352 t353 0 true _ A34.out).mono ?_); rintro e w103 ⟨rfl, hb⟩; have n0_ := Aside0.mk (Kd.R_below (by (with_reducible repeat (first | apply Kd.R_alloc | apply Kd.R_drewN | apply Kd.R_drew)); exact HO301.out) hb); have n1_ := Aside0.mk (blk_below (g := gb285) (o := .cells #[.int .i64 t281, .int .i64 t282, .int .i64 t283] 23 (0, 0)) (by (with_reducible repeat (first | refine blk_drewN ?_ _ | refine blk_drew ?_ | refine blk_alloc ?_ _)); exact BK285.out) hb); have n2_ := Aside0.mk (blk_below (g := gb315) (o := .cells #[.int .i64 t311, .int .i64 t312, .int .i64 t313] 23 (0, 0)) (by (with_reducible repeat (first | refine blk_drewN ?_ _ | refine blk_drew ?_ | refine blk_alloc ?_ _)); exact BK315.out) hb); have n3_ := Aside0.mk (below_step (by repeat (first | (with_reducible first | exact HB.out | apply below_alloc | apply pw_below_drewN | apply below_drew1 | refine below_set ?_ GE285.out | refine below_set ?_ GE315.out) | exact HB.out)) hb); clear HO301; clear BK285; clear BK315; clear HB; have HO301 := n0_; have BK285 := n1_; have BK315 := n2_; have HB := n3_; clear n0_ n1_ n2_ n3_; (try clear hb); (try clear hb2); (try clear hk); (try clear hi)) | ((with_reducible refine gate_callee (f := 19) rfl ?_); refine goesL_ (some 73) rfl rfl Try.func19 (by kernel_rfl) rfl #[.int .i64 2, .int .i64 3, .int .i64 1] rfl (by (try simp only [List.map_toArray, List.map_cons, List.map_nil]); first | done | rfl | (simp only [List.length_drop, List.length_take]; rfl)) ?_; (with_reducible refine (tipstafflaw16_at.calls 2 3 1 t291 t292 t293 _ A35.out).mono ?_); rintro e w104 ⟨rfl, hb⟩; refine ⟨_, rfl, ?_⟩; have n0_ := Aside0.mk (Kd.R_below (by (with_reducible repeat (first | apply Kd.R_alloc | apply Kd.R_drewN | apply Kd.R_drew)); exact HO301.out) hb); have n1_ := Aside0.mk (blk_below (g := gb285) (o := .cells #[.int .i64 t281, .int .i64 t282, .int .i64 t283] 23 (0, 0)) (by (with_reducible repeat (first | refine blk_drewN ?_ _ | refine blk_drew ?_ | refine blk_alloc ?_ _)); exact BK285.out) hb); have n2_ := Aside0.mk (blk_below (g := gb315) (o := .cells #[.int .i64 t311, .int .i64 t312, .int .i64 t313] 23 (0, 0)) (by (with_reducible repeat (first | refine blk_drewN ?_ _ | refine blk_drew ?_ | refine blk_alloc ?_ _)); exact BK315.out) hb); have n3_ := Aside0.mk (below_step (by repeat (first | (with_reducible first | exact HB.out | apply below_alloc | apply pw_below_drewN | apply below_drew1 | refine below_set ?_ GE285.out | refine below_set ?_ GE315.out) | exact HB.out)) hb); clear HO301; clear BK285; clear BK315; clear HB; have HO301 := n0_; have BK285 := n1_; have BK315 := n2_; have HB := n3_; clear n0_ n1_ n2_ n3_; (try clear hb); (try clear hb2); (try clear hk); (try clear hi)) | ((with_reducible refine gate_callee (f := 23) rfl ?_); refine goesL_ (some 74) rfl rfl Try.func23 (by kernel_rfl) rfl #[.agg #[.int .i64 t291, .int .i64 t292, .int .i64 t293], .int .i64 1] rfl (by (try simp only [List.map_toArray, List.map_cons, List.map_nil]); first | done | rfl | (simp only [List.length_drop, List.length_take]; rfl)) ?_; (with_reducible refine (tipstafflaw16_left.calls k t291 t292 t293 1 true _ A36.out).mono ?_); rintro e w105 ⟨rfl, hb⟩; refine ⟨_, rfl, ?_⟩; have n0_ := Aside0.mk (Kd.R_below (by (with_reducible repeat (first | apply Kd.R_alloc | apply Kd.R_drewN | apply Kd.R_drew)); exact HO301.out) hb); have n1_ := Aside0.mk (blk_below (g := gb285) (o := .cells #[.int .i64 t281, .int .i64 t282, .int .i64 t283] 23 (0, 0)) (by (with_reducible repeat (first | refine blk_drewN ?_ _ | refine blk_drew ?_ | refine blk_alloc ?_ _)); exact BK285.out) hb); have n2_ := Aside0.mk (blk_below (g := gb315) (o := .cells #[.int .i64 t311, .int .i64 t312, .int .i64 t313] 23 (0, 0)) (by (with_reducible repeat (first | refine blk_drewN ?_ _ | refine blk_drew ?_ | refine blk_alloc ?_ _)); exact BK315.out) hb); have n3_ := Aside0.mk (below_step (by repeat (first | (with_reducible first | exact HB.out | apply below_alloc | apply pw_below_drewN | apply below_drew1 | refine below_set ?_ GE285.out | refine below_set ?_ GE315.out) | exact HB.out)) hb); clear HO301; clear BK285; clear BK315; clear HB; have HO301 := n0_; have BK285 := n1_; have BK315 := n2_; have HB := n3_; clear n0_ n1_ n2_ n3_; (try clear hb); (try clear hb2); (try clear hk); (try clear hi)) | (go_at_call 19; (with_reducible refine (tipstafflaw16_at.calls 2 3 (-1) t286 t287 t288 _ A38.out).mono ?_); rintro e w106 ⟨rfl, hb⟩; have n0_ := Aside0.mk (Kd.R_below (by (with_reducible repeat (first | apply Kd.R_alloc | apply Kd.R_drewN | apply Kd.R_drew)); exact HO301.out) hb); have n1_ := Aside0.mk (blk_below (g := gb285) (o := .cells #[.int .i64 t281, .int .i64 t282, .int .i64 t283] 23 (0, 0)) (by (with_reducible repeat (first | refine blk_drewN ?_ _ | refine blk_drew ?_ | refine blk_alloc ?_ _)); exact BK285.out) hb); have n2_ := Aside0.mk (blk_below (g := gb315) (o := .cells #[.int .i64 t311, .int .i64 t312, .int .i64 t313] 23 (0, 0)) (by (with_reducible repeat (first | refine blk_drewN ?_ _ | refine blk_drew ?_ | refine blk_alloc ?_ _)); exact BK315.out) hb); have n3_ := Aside0.mk (below_step (by repeat (first | (with_reducible first | exact HB.out | apply below_alloc | apply pw_below_drewN | apply below_drew1 | refine below_set ?_ GE285.out | refine below_set ?_ GE315.out) | exact HB.out)) hb); clear HO301; clear BK285; clear BK315; clear HB; have HO301 := n0_; have BK285 := n1_; have BK315 := n2_; have HB := n3_; clear n0_ n1_ n2_ n3_; (try clear hb); (try clear hb2); (try clear hk); (try clear hi)) | (go_at_call 23; (with_reducible refine (tipstafflaw16_left.calls k t286 t287 t288 2 true _ A39.out).mono ?_); rintro e w107 ⟨rfl, hb⟩; have n0_ := Aside0.mk (Kd.R_below (by (with_reducible repeat (first | apply Kd.R_alloc | apply Kd.R_drewN | apply Kd.R_drew)); exact HO301.out) hb); have n1_ := Aside0.mk (blk_below (g := gb285) (o := .cells #[.int .i64 t281, .int .i64 t282, .int .i64 t283] 23 (0, 0)) (by (with_reducible repeat (first | refine blk_drewN ?_ _ | refine blk_drew ?_ | refine blk_alloc ?_ _)); exact BK285.out) hb); have n2_ := Aside0.mk (blk_below (g := gb315) (o := .cells #[.int .i64 t311, .int .i64 t312, .int .i64 t313] 23 (0, 0)) (by (with_reducible repeat (first | refine blk_drewN ?_ _ | refine blk_drew ?_ | refine blk_alloc ?_ _)); exact BK315.out) hb); have n3_ := Aside0.mk (below_step (by repeat (first | (with_reducible first | exact HB.out | apply below_alloc | apply pw_below_drewN | apply below_drew1 | refine below_set ?_ GE285.out | refine below_set ?_ GE315.out) | exact HB.out)) hb); clear HO301; clear BK285; clear BK315; clear HB; have HO301 := n0_; have BK285 := n1_; have BK315 := n2_; have HB := n3_; clear n0_ n1_ n2_ n3_; (try clear hb); (try clear hb2); (try clear hk); (try clear hi)) | (go_at_call 19; (with_reducible refine (tipstafflaw16_at.calls 2 3 0 t366 t367 t368 _ A41.out).mono ?_); rintro e w108 ⟨rfl, hb⟩; have n0_ := Aside0.mk (Kd.R_below (by (with_reducible repeat (first | apply Kd.R_alloc | apply Kd.R_drewN | apply Kd.R_drew)); exact HO301.out) hb); have n1_ := Aside0.mk (blk_below (g := gb285) (o := .cells #[.int .i64 t281, .int .i64 t282, .int .i64 t283] 23 (0, 0)) (by (with_reducible repeat (first | refine blk_drewN ?_ _ | refine blk_drew ?_ | refine blk_alloc ?_ _)); exact BK285.out) hb); have n2_ := Aside0.mk (blk_below (g := gb315) (o := .cells #[.int .i64 t311, .int .i64 t312, .int .i64 t313] 23 (0, 0)) (by (with_reducible repeat (first | refine blk_drewN ?_ _ | refine blk_drew ?_ | refine blk_alloc ?_ _)); exact BK315.out) hb); have n3_ := Aside0.mk (below_step (by repeat (first | (with_reducible first | exact HB.out | apply below_alloc | apply pw_below_drewN | apply below_drew1 | refine below_set ?_ GE285.out | refine below_set ?_ GE315.out) | exact HB.out)) hb); clear HO301; clear BK285; clear BK315; clear HB; have HO301 := n0_; have BK285 := n1_; have BK315 := n2_; have HB := n3_; clear n0_ n1_ n2_ n3_; (try clear hb); (try clear hb2); (try clear hk); (try clear hi)) | (go_at_call 23; (with_reducible refine (tipstafflaw16_left.calls k t366 t367 t368 0 true _ A42.out).mono ?_); rintro e w109 ⟨rfl, hb⟩; have n0_ := Aside0.mk (Kd.R_below (by (with_reducible repeat (first | apply Kd.R_alloc | apply Kd.R_drewN | apply Kd.R_drew)); exact HO301.out) hb); have n1_ := Aside0.mk (blk_below (g := gb285) (o := .cells #[.int .i64 t281, .int .i64 t282, .int .i64 t283] 23 (0, 0)) (by (with_reducible repeat (first | refine blk_drewN ?_ _ | refine blk_drew ?_ | refine blk_alloc ?_ _)); exact BK285.out) hb); have n2_ := Aside0.mk (blk_below (g := gb315) (o := .cells #[.int .i64 t311, .int .i64 t312, .int .i64 t313] 23 (0, 0)) (by (with_reducible repeat (first | refine blk_drewN ?_ _ | refine blk_drew ?_ | refine blk_alloc ?_ _)); exact BK315.out) hb); have n3_ := Aside0.mk (below_step (by repeat (first | (with_reducible first | exact HB.out | apply below_alloc | apply pw_below_drewN | apply below_drew1 | refine below_set ?_ GE285.out | refine below_set ?_ GE315.out) | exact HB.out)) hb); clear HO301; clear BK285; clear BK315; clear HB; have HO301 := n0_; have BK285 := n1_; have BK315 := n2_; have HB := n3_; clear n0_ n1_ n2_ n3_; (try clear hb); (try clear hb2); (try clear hk); (try clear hi)) | (go_at_call 19; (with_reducible refine (tipstafflaw16_at.calls 0 3 0 t296 t297 t298 _ A44.out).mono ?_); rintro e w110 ⟨rfl, hb⟩; have n0_ := Aside0.mk (Kd.R_below (by (with_reducible repeat (first | apply Kd.R_alloc | apply Kd.R_drewN | apply Kd.R_drew)); exact HO301.out) hb); have n1_ := Aside0.mk (blk_below (g := gb285) (o := .cells #[.int .i64 t281, .int .i64 t282, .int .i64 t283] 23 (0, 0)) (by (with_reducible repeat (first | refine blk_drewN ?_ _ | refine blk_drew ?_ | refine blk_alloc ?_ _)); exact BK285.out) hb); have n2_ := Aside0.mk (blk_below (g := gb315) (o := .cells #[.int .i64 t311, .int .i64 t312, .int .i64 t313] 23 (0, 0)) (by (with_reducible repeat (first | refine blk_drewN ?_ _ | refine blk_drew ?_ | refine blk_alloc ?_ _)); exact BK315.out) hb); have n3_ := Aside0.mk (below_step (by repeat (first | (with_reducible first | exact HB.out | apply below_alloc | apply pw_below_drewN | apply below_drew1 | refine below_set ?_ GE285.out | refine below_set ?_ GE315.out) | exact HB.out)) hb); clear HO301; clear BK285; clear BK315; clear HB; have HO301 := n0_; have BK285 := n1_; have BK315 := n2_; have HB := n3_; clear n0_ n1_ n2_ n3_; (try clear hb); (try clear hb2); (try clear hk); (try clear hi)) | (go_at_call 19; (with_reducible refine (tipstafflaw16_at.calls 0 3 0 t296 t297 t298 _ A45.out).mono ?_); rintro e w111 ⟨rfl, hb⟩; have n0_ := Aside0.mk (Kd.R_below (by (with_reducible repeat (first | apply Kd.R_alloc | apply Kd.R_drewN | apply Kd.R_drew)); exact HO301.out) hb); have n1_ := Aside0.mk (blk_below (g := gb285) (o := .cells #[.int .i64 t281, .int .i64 t282, .int .i64 t283] 23 (0, 0)) (by (with_reducible repeat (first | refine blk_drewN ?_ _ | refine blk_drew ?_ | refine blk_alloc ?_ _)); exact BK285.out) hb); have n2_ := Aside0.mk (blk_below (g := gb315) (o := .cells #[.int .i64 t311, .int .i64 t312, .int .i64 t313] 23 (0, 0)) (by (with_reducible repeat (first | refine blk_drewN ?_ _ | refine blk_drew ?_ | refine blk_alloc ?_ _)); exact BK315.out) hb); have n3_ := Aside0.mk (below_step (by repeat (first | (with_reducible first | exact HB.out | apply below_alloc | apply pw_below_drewN | apply below_drew1 | refine below_set ?_ GE285.out | refine below_set ?_ GE315.out) | exact HB.out)) hb); clear HO301; clear BK285; clear BK315; clear HB; have HO301 := n0_; have BK285 := n1_; have BK315 := n2_; have HB := n3_; clear n0_ n1_ n2_ n3_; (try clear hb); (try clear hb2); (try clear hk); (try clear hi)) | (go_at_call 22; (with_reducible refine (tipstafflaw16_told.calls k t296 t297 t298 2 t296 t297 t298 true _ A46.out).mono ?_); rintro e w112 ⟨rfl, hb⟩; have n0_ := Aside0.mk (Kd.R_below (by (with_reducible repeat (first | apply Kd.R_alloc | apply Kd.R_drewN | apply Kd.R_drew)); exact HO301.out) hb); have n1_ := Aside0.mk (blk_below (g := gb285) (o := .cells #[.int .i64 t281, .int .i64 t282, .int .i64 t283] 23 (0, 0)) (by (with_reducible repeat (first | refine blk_drewN ?_ _ | refine blk_drew ?_ | refine blk_alloc ?_ _)); exact BK285.out) hb); have n2_ := Aside0.mk (blk_below (g := gb315) (o := .cells #[.int .i64 t311, .int .i64 t312, .int .i64 t313] 23 (0, 0)) (by (with_reducible repeat (first | refine blk_drewN ?_ _ | refine blk_drew ?_ | refine blk_alloc ?_ _)); exact BK315.out) hb); have n3_ := Aside0.mk (below_step (by repeat (first | (with_reducible first | exact HB.out | apply below_alloc | apply pw_below_drewN | apply below_drew1 | refine below_set ?_ GE285.out | refine below_set ?_ GE315.out) | exact HB.out)) hb); clear HO301; clear BK285; clear BK315; clear HB; have HO301 := n0_; have BK285 := n1_; have BK315 := n2_; have HB := n3_; clear n0_ n1_ n2_ n3_; (try clear hb); (try clear hb2); (try clear hk); (try clear hi)) | (go_at_call 19; (with_reducible refine (tipstafflaw16_at.calls 0 3 1 t316 t317 t318 _ A48.out).mono ?_); rintro e w113 ⟨rfl, hb⟩; have n0_ := Aside0.mk (Kd.R_below (by (with_reducible repeat (first | apply Kd.R_alloc | apply Kd.R_drewN | apply Kd.R_drew)); exact HO301.out) hb); have n1_ := Aside0.mk (blk_below (g := gb285) (o := .cells #[.int .i64 t281, .int .i64 t282, .int .i64 t283] 23 (0, 0)) (by (with_reducible repeat (first | refine blk_drewN ?_ _ | refine blk_drew ?_ | refine blk_alloc ?_ _)); exact BK285.out) hb); have n2_ := Aside0.mk (blk_below (g := gb315) (o := .cells #[.int .i64 t311, .int .i64 t312, .int .i64 t313] 23 (0, 0)) (by (with_reducible repeat (first | refine blk_drewN ?_ _ | refine blk_drew ?_ | refine blk_alloc ?_ _)); exact BK315.out) hb); have n3_ := Aside0.mk (below_step (by repeat (first | (with_reducible first | exact HB.out | apply below_alloc | apply pw_below_drewN | apply below_drew1 | refine below_set ?_ GE285.out | refine below_set ?_ GE315.out) | exact HB.out)) hb); clear HO301; clear BK285; clear BK315; clear HB; have HO301 := n0_; have BK285 := n1_; have BK315 := n2_; have HB := n3_; clear n0_ n1_ n2_ n3_; (try clear hb); (try clear hb2); (try clear hk); (try clear hi)) | (go_at_call 19; (with_reducible refine (tipstafflaw16_at.calls 0 3 0 t296 t297 t298 _ A49.out).mono ?_); rintro e w114 ⟨rfl, hb⟩; have n0_ := Aside0.mk (Kd.R_below (by (with_reducible repeat (first | apply Kd.R_alloc | apply Kd.R_drewN | apply Kd.R_drew)); exact HO301.out) hb); have n1_ := Aside0.mk (blk_below (g := gb285) (o := .cells #[.int .i64 t281, .int .i64 t282, .int .i64 t283] 23 (0, 0)) (by (with_reducible repeat (first | refine blk_drewN ?_ _ | refine blk_drew ?_ | refine blk_alloc ?_ _)); exact BK285.out) hb); have n2_ := Aside0.mk (blk_below (g := gb315) (o := .cells #[.int .i64 t311, .int .i64 t312, .int .i64 t313] 23 (0, 0)) (by (with_reducible repeat (first | refine blk_drewN ?_ _ | refine blk_drew ?_ | refine blk_alloc ?_ _)); exact BK315.out) hb); have n3_ := Aside0.mk (below_step (by repeat (first | (with_reducible first | exact HB.out | apply below_alloc | apply pw_below_drewN | apply below_drew1 | refine below_set ?_ GE285.out | refine below_set ?_ GE315.out) | exact HB.out)) hb); clear HO301; clear BK285; clear BK315; clear HB; have HO301 := n0_; have BK285 := n1_; have BK315 := n2_; have HB := n3_; clear n0_ n1_ n2_ n3_; (try clear hb); (try clear hb2); (try clear hk); (try clear hi)) | (go_at_call 22; (with_reducible refine (tipstafflaw16_told.calls k t316 t317 t318 4 t296 t297 t298 true _ A50.out).mono ?_); rintro e w115 ⟨rfl, hb⟩; have n0_ := Aside0.mk (Kd.R_below (by (with_reducible repeat (first | apply Kd.R_alloc | apply Kd.R_drewN | apply Kd.R_drew)); exact HO301.out) hb); have n1_ := Aside0.mk (blk_below (g := gb285) (o := .cells #[.int .i64 t281, .int .i64 t282, .int .i64 t283] 23 (0, 0)) (by (with_reducible repeat (first | refine blk_drewN ?_ _ | refine blk_drew ?_ | refine blk_alloc ?_ _)); exact BK285.out) hb); have n2_ := Aside0.mk (blk_below (g := gb315) (o := .cells #[.int .i64 t311, .int .i64 t312, .int .i64 t313] 23 (0, 0)) (by (with_reducible repeat (first | refine blk_drewN ?_ _ | refine blk_drew ?_ | refine blk_alloc ?_ _)); exact BK315.out) hb); have n3_ := Aside0.mk (below_step (by repeat (first | (with_reducible first | exact HB.out | apply below_alloc | apply pw_below_drewN | apply below_drew1 | refine below_set ?_ GE285.out | refine below_set ?_ GE315.out) | exact HB.out)) hb); clear HO301; clear BK285; clear BK315; clear HB; have HO301 := n0_; have BK285 := n1_; have BK315 := n2_; have HB := n3_; clear n0_ n1_ n2_ n3_; (try clear hb); (try clear hb2); (try clear hk); (try clear hi)) | (go_at_call 19; (with_reducible refine (tipstafflaw16_at.calls 3 3 1 t384 t385 t386 _ A54.out).mono ?_); rintro e w116 ⟨rfl, hb⟩; have n0_ := Aside0.mk (Kd.R_below (by (with_reducible repeat (first | apply Kd.R_alloc | apply Kd.R_drewN | apply Kd.R_drew)); exact HO301.out) hb); have n1_ := Aside0.mk (blk_below (g := gb285) (o := .cells #[.int .i64 t281, .int .i64 t282, .int .i64 t283] 23 (0, 0)) (by (with_reducible repeat (first | refine blk_drewN ?_ _ | refine blk_drew ?_ | refine blk_alloc ?_ _)); exact BK285.out) hb); have n2_ := Aside0.mk (blk_below (g := gb315) (o := .cells #[.int .i64 t311, .int .i64 t312, .int .i64 t313] 23 (0, 0)) (by (with_reducible repeat (first | refine blk_drewN ?_ _ | refine blk_drew ?_ | refine blk_alloc ?_ _)); exact BK315.out) hb); have n3_ := Aside0.mk (below_step (by repeat (first | (with_reducible first | exact HB.out | apply below_alloc | apply pw_below_drewN | apply below_drew1 | refine below_set ?_ GE285.out | refine below_set ?_ GE315.out) | exact HB.out)) hb); clear HO301; clear BK285; clear BK315; clear HB; have HO301 := n0_; have BK285 := n1_; have BK315 := n2_; have HB := n3_; clear n0_ n1_ n2_ n3_; (try clear hb); (try clear hb2); (try clear hk); (try clear hi)) | (go_at_call 24; (with_reducible refine (panel_Check.calls k t384 t385 t386 t387 _ A55.out).mono ?_); rintro e w117 ⟨rfl, hb⟩; have n0_ := Aside0.mk (Kd.R_below (by (with_reducible repeat (first | apply Kd.R_alloc | apply Kd.R_drewN | apply Kd.R_drew)); exact HO301.out) hb); have n1_ := Aside0.mk (blk_below (g := gb285) (o := .cells #[.int .i64 t281, .int .i64 t282, .int .i64 t283] 23 (0, 0)) (by (with_reducible repeat (first | refine blk_drewN ?_ _ | refine blk_drew ?_ | refine blk_alloc ?_ _)); exact BK285.out) hb); have n2_ := Aside0.mk (blk_below (g := gb315) (o := .cells #[.int .i64 t311, .int .i64 t312, .int .i64 t313] 23 (0, 0)) (by (with_reducible repeat (first | refine blk_drewN ?_ _ | refine blk_drew ?_ | refine blk_alloc ?_ _)); exact BK315.out) hb); have n3_ := Aside0.mk (below_step (by repeat (first | (with_reducible first | exact HB.out | apply below_alloc | apply pw_below_drewN | apply below_drew1 | refine below_set ?_ GE285.out | refine below_set ?_ GE315.out) | exact HB.out)) hb); clear HO301; clear BK285; clear BK315; clear HB; have HO301 := n0_; have BK285 := n1_; have BK315 := n2_; have HB := n3_; clear n0_ n1_ n2_ n3_; (try clear hb); (try clear hb2); (try clear hk); (try clear hi)) | (go_at_call 19; (with_reducible refine (tipstafflaw16_at.calls 0 21 0 t388 t389 t390 _ A57.out).mono ?_); rintro e w118 ⟨rfl, hb⟩; have n0_ := Aside0.mk (Kd.R_below (by (with_reducible repeat (first | apply Kd.R_alloc | apply Kd.R_drewN | apply Kd.R_drew)); exact HO301.out) hb); have n1_ := Aside0.mk (blk_below (g := gb285) (o := .cells #[.int .i64 t281, .int .i64 t282, .int .i64 t283] 23 (0, 0)) (by (with_reducible repeat (first | refine blk_drewN ?_ _ | refine blk_drew ?_ | refine blk_alloc ?_ _)); exact BK285.out) hb); have n2_ := Aside0.mk (blk_below (g := gb315) (o := .cells #[.int .i64 t311, .int .i64 t312, .int .i64 t313] 23 (0, 0)) (by (with_reducible repeat (first | refine blk_drewN ?_ _ | refine blk_drew ?_ | refine blk_alloc ?_ _)); exact BK315.out) hb); have n3_ := Aside0.mk (below_step (by repeat (first | (with_reducible first | exact HB.out | apply below_alloc | apply pw_below_drewN | apply below_drew1 | refine below_set ?_ GE285.out | refine below_set ?_ GE315.out) | exact HB.out)) hb); clear HO301; clear BK285; clear BK315; clear HB; have HO301 := n0_; have BK285 := n1_; have BK315 := n2_; have HB := n3_; clear n0_ n1_ n2_ n3_; (try clear hb); (try clear hb2); (try clear hk); (try clear hi)) | (go_at_call 24; (with_reducible refine (panel_Check.calls k t388 t389 t390 t391 _ A58.out).mono ?_); rintro e w119 ⟨rfl, hb⟩; have n0_ := Aside0.mk (Kd.R_below (by (with_reducible repeat (first | apply Kd.R_alloc | apply Kd.R_drewN | apply Kd.R_drew)); exact HO301.out) hb); have n1_ := Aside0.mk (blk_below (g := gb285) (o := .cells #[.int .i64 t281, .int .i64 t282, .int .i64 t283] 23 (0, 0)) (by (with_reducible repeat (first | refine blk_drewN ?_ _ | refine blk_drew ?_ | refine blk_alloc ?_ _)); exact BK285.out) hb); have n2_ := Aside0.mk (blk_below (g := gb315) (o := .cells #[.int .i64 t311, .int .i64 t312, .int .i64 t313] 23 (0, 0)) (by (with_reducible repeat (first | refine blk_drewN ?_ _ | refine blk_drew ?_ | refine blk_alloc ?_ _)); exact BK315.out) hb); have n3_ := Aside0.mk (below_step (by repeat (first | (with_reducible first | exact HB.out | apply below_alloc | apply pw_below_drewN | apply below_drew1 | refine below_set ?_ GE285.out | refine below_set ?_ GE315.out) | exact HB.out)) hb); clear HO301; clear BK285; clear BK315; clear HB; have HO301 := n0_; have BK285 := n1_; have BK315 := n2_; have HB := n3_; clear n0_ n1_ n2_ n3_; (try clear hb); (try clear hb2); (try clear hk); (try clear hi)))
                       have n0_ := Aside0.mk (Kd.R_drew HO301.out)
                       have n1_ := Aside0.mk (blk_drew BK285.out)
                       have n2_ := Aside0.mk (blk_drew BK315.out)
                       have n3_ := Aside0.mk (below_drew1 HB.out)
                       clear HO301
                       clear BK285
                       clear BK315
                       clear HB
                       have HO301 := n0_
                       have BK285 := n1_
                       have BK315 := n2_
                       have HB := n3_
                       clear n0_ n1_ n2_ n3_
                       refine start_ (n := 36) (S := fun w' => w'.cell? ⟨gb285, 0, none⟩ = some (.int .i64 t281) ∧ w'.cell? ⟨gb285, 1, none⟩ = some (.int .i64 t282) ∧ w'.cell? ⟨gb285, 2, none⟩ = some (.int .i64 t283)) (ds := []) #[Z,Z,Z,Z,Z,Z,Z,Z,Z,Z,Z,Z,Z,Z,Z,Z,Z,Z,Z,Z,Z,Z,Z,Z,Z,Z,Z,Z,Z,Z,Z,Z,Z,Z,Z,Z] (by kernel_rfl) rfl rfl ⟨(blk_cell BK285.out 0).trans rfl, (blk_cell BK285.out 1).trans rfl, (blk_cell BK285.out 2).trans rfl⟩ (fun hHeld => ?_); refine with_tabW tipstafflaw16_PanelKnown.tab10 tipstafflaw16_PanelKnown.bits10 (fun HT_ HW_ => ?_)
                       generalize w119.drew = w120 at HO301 BK285 BK315 HB hHeld ⊢
                       refine one_ (i := 0) (N := some 113) #[X,Z,Z,Z,Z,Z,Z,Z,Z,Z,Z,Z,Z,Z,Z,Z,Z,Z,Z,Z,Z,Z,Z,Z,Z,Z,Z,Z,Z,Z,Z,Z,Z,Z,Z,Z] rfl rfl (one_of HT_.out (by kernel_rfl)) (by decide) (fun K hK => ?_)
                       refine goes_ Try.func9 (by kernel_rfl) rfl #[] (by rfl) rfl rfl (by (try simp only [List.map_toArray, List.map_cons, List.map_nil]); first | done | rfl | (simp only [List.length_drop, List.length_take]; rfl)) ?_
                       with_reducible refine (tipstafflaw16_awake.calls k  true _ A59.out).mono ?_
                       rintro e w121 ⟨rfl, hb⟩
                       refine ⟨_, rfl, ?_⟩
                       have n0_ := Aside0.mk (Kd.R_below (by (with_reducible repeat (first | apply Kd.R_alloc | apply Kd.R_drewN | apply Kd.R_drew)); exact HO301.out) hb)
                       have n1_ := Aside0.mk (blk_below (g := gb285) (o := .cells #[.int .i64 t281, .int .i64 t282, .int .i64 t283] 23 (0, 0)) (by (with_reducible repeat (first | refine blk_drewN ?_ _ | refine blk_drew ?_ | refine blk_alloc ?_ _)); exact BK285.out) hb)
                       have n2_ := Aside0.mk (blk_below (g := gb315) (o := .cells #[.int .i64 t311, .int .i64 t312, .int .i64 t313] 23 (0, 0)) (by (with_reducible repeat (first | refine blk_drewN ?_ _ | refine blk_drew ?_ | refine blk_alloc ?_ _)); exact BK315.out) hb)
                       have n3_ := Aside0.mk (below_step (by repeat (first | (with_reducible first | exact HB.out | apply below_alloc | apply pw_below_drewN | apply below_drew1 | refine below_set ?_ GE285.out | refine below_set ?_ GE315.out) | exact HB.out)) hb)
                       clear HO301
                       clear BK285
                       clear BK315
                       clear HB
                       have HO301 := n0_
                       have BK285 := n1_
                       have BK315 := n2_
                       have HB := n3_
                       clear n0_ n1_ n2_ n3_
                       (try clear hb)
                       (try clear hb2)
                       (try clear hk)
                       (try clear hi)
                       refine hK.out _ _ ⟨(blk_cell BK285.out 0).trans rfl, (blk_cell BK285.out 1).trans rfl, (blk_cell BK285.out 2).trans rfl⟩ (fun hHeld => ?_)
                       clear hK K
                       refine norm_ (a' := ?_) ?_ ?_
                       rotate_left
                       ·show Act.put _ (some 113) _ = _
                        simp only [Act.put, sA, sB, sC, i64_w, i32_w]
                        rfl
                       refine pure_ (i := 1) (N := some 114) (v := ?_) (a' := ?_) #[X,X,Z,Z,Z,Z,Z,Z,Z,Z,Z,Z,Z,Z,Z,Z,Z,Z,Z,Z,Z,Z,Z,Z,Z,Z,Z,Z,Z,Z,Z,Z,Z,Z,Z,Z] rfl rfl (any_of HT_.out (by kernel_rfl)) (fun _ _ _ h => h) (Or.inl ⟨by rfl, ?_⟩) ?_ ?_
                       rotate_left
                       ·intro w'
                        go_simp
                        with_reducible rfl
                       rotate_left
                       ·simp only [Act.put, sA, sB, sC, i64_w, i32_w]
                        rfl
                       refine pure_ (i := 2) (N := some 115) (v := ?_) (a' := ?_) #[X,X,X,Z,Z,Z,Z,Z,Z,Z,Z,Z,Z,Z,Z,Z,Z,Z,Z,Z,Z,Z,Z,Z,Z,Z,Z,Z,Z,Z,Z,Z,Z,Z,Z,Z] rfl rfl (any_of HT_.out (by kernel_rfl)) (fun _ _ _ h => h) (Or.inl ⟨by rfl, ?_⟩) ?_ ?_
                       rotate_left
                       ·intro w'
                        go_simp
                        with_reducible rfl
                       rotate_left
                       ·simp only [Act.put, sA, sB, sC, i64_w, i32_w]
                        rfl
                       refine pure_ (i := 3) (N := some 116) (v := ?_) (a' := ?_) #[X,X,X,X,Z,Z,Z,Z,Z,Z,Z,Z,Z,Z,Z,Z,Z,Z,Z,Z,Z,Z,Z,Z,Z,Z,Z,Z,Z,Z,Z,Z,Z,Z,Z,Z] rfl rfl (any_of HT_.out (by kernel_rfl)) (fun _ _ _ h => h) (Or.inl ⟨by rfl, ?_⟩) ?_ ?_
                       rotate_left
                       ·intro w'
                        go_simp
                        with_reducible rfl
                       rotate_left
                       ·simp only [Act.put, sA, sB, sC, i64_w, i32_w]
                        rfl
                       refine pure_ (i := 4) (N := some 117) (v := ?_) (a' := ?_) #[X,X,X,X,X,Z,Z,Z,Z,Z,Z,Z,Z,Z,Z,Z,Z,Z,Z,Z,Z,Z,Z,Z,Z,Z,Z,Z,Z,Z,Z,Z,Z,Z,Z,Z] rfl rfl (any_of HT_.out (by kernel_rfl)) (fun _ _ _ h => h) (Or.inl ⟨by rfl, ?_⟩) ?_ ?_
                       rotate_left
                       ·intro w'
                        go_simp
                        with_reducible rfl
                       rotate_left
                       ·simp only [Act.put, sA, sB, sC, i64_w, i32_w]
                        rfl
                       refine pure_ (i := 5) (N := some 118) (v := ?_) (a' := ?_) #[X,X,X,X,X,X,Z,Z,Z,Z,Z,Z,Z,Z,Z,Z,Z,Z,Z,Z,Z,Z,Z,Z,Z,Z,Z,Z,Z,Z,Z,Z,Z,Z,Z,Z] rfl rfl (any_of HT_.out (by kernel_rfl)) (fun _ _ _ h => h) (Or.inl ⟨by rfl, ?_⟩) ?_ ?_
                       rotate_left
                       ·intro w'
                        go_simp
                        with_reducible rfl
                       rotate_left
                       ·simp only [Act.put, sA, sB, sC, i64_w, i32_w]
                        rfl
                       refine take_ (i := 6) (N := some 119) (v := ?_) (a' := ?_) #[X,X,X,X,X,X,X,Z,Z,Z,Z,Z,Z,Z,Z,Z,Z,Z,Z,Z,Z,Z,Z,Z,Z,Z,Z,Z,Z,Z,Z,Z,Z,Z,Z,Z] rfl rfl (take_ofW HT_.out HW_.out (by kernel_rfl)) (fun _ _ _ h => h) (Or.inl ⟨by rfl, ?_⟩) hHeld ?_ ?_
                       rotate_left
                       ·rintro w' ⟨s0, s1, s2⟩
                        go_simp
                        with_reducible rfl
                       rotate_left
                       ·simp only [Act.put, sA, sB, sC, i64_w, i32_w]
                        rfl
                       refine one_ (i := 7) (N := some 120) #[X,X,X,X,X,X,X,X,Z,Z,Z,Z,Z,Z,Z,Z,Z,Z,Z,Z,Z,Z,Z,Z,Z,Z,Z,Z,Z,Z,Z,Z,Z,Z,Z,Z] rfl rfl (one_of HT_.out (by kernel_rfl)) (by decide) (fun K hK => ?_)
                       refine goes_ Try.func19 (by kernel_rfl) rfl #[.int .i64 0, .int .i64 3, .int .i64 0] (by rfl) rfl rfl (by (try simp only [List.map_toArray, List.map_cons, List.map_nil]); first | done | rfl | (simp only [List.length_drop, List.length_take]; rfl)) ?_
                       with_reducible refine (tipstafflaw16_at.calls 0 3 0 t393 t394 t395 _ A62.out).mono ?_
                       rintro e w122 ⟨rfl, hb⟩
                       refine ⟨_, rfl, ?_⟩
                       have n0_ := Aside0.mk (Kd.R_below (by (with_reducible repeat (first | apply Kd.R_alloc | apply Kd.R_drewN | apply Kd.R_drew)); exact HO301.out) hb)
                       have n1_ := Aside0.mk (blk_below (g := gb285) (o := .cells #[.int .i64 t281, .int .i64 t282, .int .i64 t283] 23 (0, 0)) (by (with_reducible repeat (first | refine blk_drewN ?_ _ | refine blk_drew ?_ | refine blk_alloc ?_ _)); exact BK285.out) hb)
                       have n2_ := Aside0.mk (blk_below (g := gb315) (o := .cells #[.int .i64 t311, .int .i64 t312, .int .i64 t313] 23 (0, 0)) (by (with_reducible repeat (first | refine blk_drewN ?_ _ | refine blk_drew ?_ | refine blk_alloc ?_ _)); exact BK315.out) hb)
                       have n3_ := Aside0.mk (below_step (by repeat (first | (with_reducible first | exact HB.out | apply below_alloc | apply pw_below_drewN | apply below_drew1 | refine below_set ?_ GE285.out | refine below_set ?_ GE315.out) | exact HB.out)) hb)
                       clear HO301
                       clear BK285
                       clear BK315
                       clear HB
                       have HO301 := n0_
                       have BK285 := n1_
                       have BK315 := n2_
                       have HB := n3_
                       clear n0_ n1_ n2_ n3_
                       (try clear hb)
                       (try clear hb2)
                       (try clear hk)
                       (try clear hi)
                       refine hK.out _ _ ⟨(blk_cell BK285.out 0).trans rfl, (blk_cell BK285.out 1).trans rfl, (blk_cell BK285.out 2).trans rfl⟩ (fun hHeld => ?_)
                       clear hK K
                       refine norm_ (a' := ?_) ?_ ?_
                       rotate_left
                       ·show Act.put _ (some 120) _ = _
                        simp only [Act.put, sA, sB, sC, i64_w, i32_w]
                        rfl
                       refine pure_ (i := 8) (N := some 121) (v := ?_) (a' := ?_) #[X,X,X,X,X,X,X,X,X,Z,Z,Z,Z,Z,Z,Z,Z,Z,Z,Z,Z,Z,Z,Z,Z,Z,Z,Z,Z,Z,Z,Z,Z,Z,Z,Z] rfl rfl (any_of HT_.out (by kernel_rfl)) (fun _ _ _ h => h) (Or.inl ⟨by rfl, ?_⟩) ?_ ?_
                       rotate_left
                       ·intro w'
                        go_simp
                        with_reducible rfl
                       rotate_left
                       ·simp only [Act.put, sA, sB, sC, i64_w, i32_w]
                        rfl
                       refine pure_ (i := 9) (N := some 122) (v := ?_) (a' := ?_) #[X,X,X,X,X,X,X,X,X,X,Z,Z,Z,Z,Z,Z,Z,Z,Z,Z,Z,Z,Z,Z,Z,Z,Z,Z,Z,Z,Z,Z,Z,Z,Z,Z] rfl rfl (any_of HT_.out (by kernel_rfl)) (fun _ _ _ h => h) (Or.inl ⟨by rfl, ?_⟩) ?_ ?_
                       rotate_left
                       ·intro w'
                        go_simp
                        with_reducible rfl
                       rotate_left
                       ·simp only [Act.put, sA, sB, sC, i64_w, i32_w]
                        rfl
                       refine pure_ (i := 10) (N := some 123) (v := ?_) (a' := ?_) #[X,X,X,X,X,X,X,X,X,X,X,Z,Z,Z,Z,Z,Z,Z,Z,Z,Z,Z,Z,Z,Z,Z,Z,Z,Z,Z,Z,Z,Z,Z,Z,Z] rfl rfl (any_of HT_.out (by kernel_rfl)) (fun _ _ _ h => h) (Or.inl ⟨by rfl, ?_⟩) ?_ ?_
                       rotate_left
                       ·intro w'
                        go_simp
                        with_reducible rfl
                       rotate_left
                       ·simp only [Act.put, sA, sB, sC, i64_w, i32_w]
                        rfl
                       refine pure_ (i := 11) (N := some 124) (v := ?_) (a' := ?_) #[X,X,X,X,X,X,X,X,X,X,X,X,Z,Z,Z,Z,Z,Z,Z,Z,Z,Z,Z,Z,Z,Z,Z,Z,Z,Z,Z,Z,Z,Z,Z,Z] rfl rfl (any_of HT_.out (by kernel_rfl)) (fun _ _ _ h => h) (Or.inl ⟨by rfl, ?_⟩) ?_ ?_
                       rotate_left
                       ·intro w'
                        go_simp
                        with_reducible rfl
                       rotate_left
                       ·simp only [Act.put, sA, sB, sC, i64_w, i32_w]
                        rfl
                       refine pure_ (i := 12) (N := some 125) (v := ?_) (a' := ?_) #[X,X,X,X,X,X,X,X,X,X,X,X,X,Z,Z,Z,Z,Z,Z,Z,Z,Z,Z,Z,Z,Z,Z,Z,Z,Z,Z,Z,Z,Z,Z,Z] rfl rfl (any_of HT_.out (by kernel_rfl)) (fun _ _ _ h => h) (Or.inl ⟨by rfl, ?_⟩) ?_ ?_
                       rotate_left
                       ·intro w'
                        go_simp
                        with_reducible rfl
                       rotate_left
                       ·simp only [Act.put, sA, sB, sC, i64_w, i32_w]
                        rfl
                       refine pure_ (i := 13) (N := some 126) (v := ?_) (a' := ?_) #[X,X,X,X,X,X,X,X,X,X,X,X,X,X,Z,Z,Z,Z,Z,Z,Z,Z,Z,Z,Z,Z,Z,Z,Z,Z,Z,Z,Z,Z,Z,Z] rfl rfl (any_of HT_.out (by kernel_rfl)) (fun _ _ _ h => h) (Or.inl ⟨by rfl, ?_⟩) ?_ ?_
                       rotate_left
                       ·intro w'
                        go_simp
                        with_reducible rfl
                       rotate_left
                       ·simp only [Act.put, sA, sB, sC, i64_w, i32_w]
                        rfl
                       refine pure_ (i := 14) (N := some 127) (v := ?_) (a' := ?_) #[X,X,X,X,X,X,X,X,X,X,X,X,X,X,X,Z,Z,Z,Z,Z,Z,Z,Z,Z,Z,Z,Z,Z,Z,Z,Z,Z,Z,Z,Z,Z] rfl rfl (any_of HT_.out (by kernel_rfl)) (fun _ _ _ h => h) (Or.inl ⟨by rfl, ?_⟩) ?_ ?_
                       rotate_left
                       ·intro w'
                        go_simp
                        with_reducible rfl
                       rotate_left
                       ·simp only [Act.put, sA, sB, sC, i64_w, i32_w]
                        rfl
                       refine pure_ (i := 15) (N := some 128) (v := ?_) (a' := ?_) #[X,X,X,X,X,X,X,X,X,X,X,X,X,X,X,X,Z,Z,Z,Z,Z,Z,Z,Z,Z,Z,Z,Z,Z,Z,Z,Z,Z,Z,Z,Z] rfl rfl (any_of HT_.out (by kernel_rfl)) (fun _ _ _ h => h) (Or.inl ⟨by rfl, ?_⟩) ?_ ?_
                       rotate_left
                       ·intro w'
                        go_simp
                        with_reducible rfl
                       rotate_left
                       ·simp only [Act.put, sA, sB, sC, i64_w, i32_w]
                        rfl
                       refine pure_ (i := 16) (N := some 129) (v := ?_) (a' := ?_) #[X,X,X,X,X,X,X,X,X,X,X,X,X,X,X,X,X,Z,Z,Z,Z,Z,Z,Z,Z,Z,Z,Z,Z,Z,Z,Z,Z,Z,Z,Z] rfl rfl (any_of HT_.out (by kernel_rfl)) (fun _ _ _ h => h) (Or.inl ⟨by rfl, ?_⟩) ?_ ?_
                       rotate_left
                       ·intro w'
                        go_simp
                        with_reducible rfl
                       rotate_left
                       ·simp only [Act.put, sA, sB, sC, i64_w, i32_w]
                        rfl
                       refine pure_ (i := 17) (N := some 130) (v := ?_) (a' := ?_) #[X,X,X,X,X,X,X,X,X,X,X,X,X,X,X,X,X,X,Z,Z,Z,Z,Z,Z,Z,Z,Z,Z,Z,Z,Z,Z,Z,Z,Z,Z] rfl rfl (any_of HT_.out (by kernel_rfl)) (fun _ _ _ h => h) (Or.inl ⟨by rfl, ?_⟩) ?_ ?_
                       rotate_left
                       ·intro w'
                        go_simp
                        with_reducible rfl
                       rotate_left
                       ·simp only [Act.put, sA, sB, sC, i64_w, i32_w]
                        rfl
                       refine pure_ (i := 18) (N := some 131) (v := ?_) (a' := ?_) #[X,X,X,X,X,X,X,X,X,X,X,X,X,X,X,X,X,X,X,Z,Z,Z,Z,Z,Z,Z,Z,Z,Z,Z,Z,Z,Z,Z,Z,Z] rfl rfl (any_of HT_.out (by kernel_rfl)) (fun _ _ _ h => h) (Or.inl ⟨by rfl, ?_⟩) ?_ ?_
                       rotate_left
                       ·intro w'
                        go_simp
                        with_reducible rfl
                       rotate_left
                       ·simp only [Act.put, sA, sB, sC, i64_w, i32_w]
                        rfl
                       refine pure_ (i := 19) (N := some 132) (v := ?_) (a' := ?_) #[X,X,X,X,X,X,X,X,X,X,X,X,X,X,X,X,X,X,X,X,Z,Z,Z,Z,Z,Z,Z,Z,Z,Z,Z,Z,Z,Z,Z,Z] rfl rfl (any_of HT_.out (by kernel_rfl)) (fun _ _ _ h => h) (Or.inl ⟨by rfl, ?_⟩) ?_ ?_
                       rotate_left
                       ·intro w'
                        go_simp
                        with_reducible rfl
                       rotate_left
                       ·simp only [Act.put, sA, sB, sC, i64_w, i32_w]
                        rfl
                       refine pure_ (i := 20) (N := some 133) (v := ?_) (a' := ?_) #[X,X,X,X,X,X,X,X,X,X,X,X,X,X,X,X,X,X,X,X,X,Z,Z,Z,Z,Z,Z,Z,Z,Z,Z,Z,Z,Z,Z,Z] rfl rfl (any_of HT_.out (by kernel_rfl)) (fun _ _ _ h => h) (Or.inl ⟨by rfl, ?_⟩) ?_ ?_
                       rotate_left
                       ·intro w'
                        go_simp
                        with_reducible rfl
                       rotate_left
                       ·simp only [Act.put, sA, sB, sC, i64_w, i32_w]
                        rfl
                       refine pure_ (i := 21) (N := some 134) (v := ?_) (a' := ?_) #[X,X,X,X,X,X,X,X,X,X,X,X,X,X,X,X,X,X,X,X,X,X,Z,Z,Z,Z,Z,Z,Z,Z,Z,Z,Z,Z,Z,Z] rfl rfl (any_of HT_.out (by kernel_rfl)) (fun _ _ _ h => h) (Or.inl ⟨by rfl, ?_⟩) ?_ ?_
                       rotate_left
                       ·intro w'
                        go_simp
                        with_reducible rfl
                       rotate_left
                       ·simp only [Act.put, sA, sB, sC, i64_w, i32_w]
                        rfl
                       refine pure_ (i := 22) (N := some 135) (v := ?_) (a' := ?_) #[X,X,X,X,X,X,X,X,X,X,X,X,X,X,X,X,X,X,X,X,X,X,X,Z,Z,Z,Z,Z,Z,Z,Z,Z,Z,Z,Z,Z] rfl rfl (any_of HT_.out (by kernel_rfl)) (fun _ _ _ h => h) (Or.inl ⟨by rfl, ?_⟩) ?_ ?_
                       rotate_left
                       ·intro w'
                        go_simp
                        with_reducible rfl
                       rotate_left
                       ·simp only [Act.put, sA, sB, sC, i64_w, i32_w]
                        rfl
                       refine pure_ (i := 23) (N := some 136) (v := ?_) (a' := ?_) #[X,X,X,X,X,X,X,X,X,X,X,X,X,X,X,X,X,X,X,X,X,X,X,X,Z,Z,Z,Z,Z,Z,Z,Z,Z,Z,Z,Z] rfl rfl (any_of HT_.out (by kernel_rfl)) (fun _ _ _ h => h) (Or.inl ⟨by rfl, ?_⟩) ?_ ?_
                       rotate_left
                       ·intro w'
                        go_simp
                        with_reducible rfl
                       rotate_left
                       ·simp only [Act.put, sA, sB, sC, i64_w, i32_w]
                        rfl
                       refine pure_ (i := 24) (N := some 137) (v := ?_) (a' := ?_) #[X,X,X,X,X,X,X,X,X,X,X,X,X,X,X,X,X,X,X,X,X,X,X,X,X,Z,Z,Z,Z,Z,Z,Z,Z,Z,Z,Z] rfl rfl (any_of HT_.out (by kernel_rfl)) (fun _ _ _ h => h) (Or.inl ⟨by rfl, ?_⟩) ?_ ?_
                       rotate_left
                       ·intro w'
                        go_simp
                        with_reducible rfl
                       rotate_left
                       ·simp only [Act.put, sA, sB, sC, i64_w, i32_w]
                        rfl
                       refine pure_ (i := 25) (N := some 138) (v := ?_) (a' := ?_) #[X,X,X,X,X,X,X,X,X,X,X,X,X,X,X,X,X,X,X,X,X,X,X,X,X,X,Z,Z,Z,Z,Z,Z,Z,Z,Z,Z] rfl rfl (any_of HT_.out (by kernel_rfl)) (fun _ _ _ h => h) (Or.inl ⟨by rfl, ?_⟩) ?_ ?_
                       rotate_left
                       ·intro w'
                        go_simp
                        with_reducible rfl
                       rotate_left
                       ·simp only [Act.put, sA, sB, sC, i64_w, i32_w]
                        rfl
                       refine pure_ (i := 26) (N := some 139) (v := ?_) (a' := ?_) #[X,X,X,X,X,X,X,X,X,X,X,X,X,X,X,X,X,X,X,X,X,X,X,X,X,X,X,Z,Z,Z,Z,Z,Z,Z,Z,Z] rfl rfl (any_of HT_.out (by kernel_rfl)) (fun _ _ _ h => h) (Or.inl ⟨by rfl, ?_⟩) ?_ ?_
                       rotate_left
                       ·intro w'
                        go_simp
                        with_reducible rfl
                       rotate_left
                       ·simp only [Act.put, sA, sB, sC, i64_w, i32_w]
                        rfl
                       refine pure_ (i := 27) (N := some 140) (v := ?_) (a' := ?_) #[X,X,X,X,X,X,X,X,X,X,X,X,X,X,X,X,X,X,X,X,X,X,X,X,X,X,X,X,Z,Z,Z,Z,Z,Z,Z,Z] rfl rfl (any_of HT_.out (by kernel_rfl)) (fun _ _ _ h => h) (Or.inl ⟨by rfl, ?_⟩) ?_ ?_
                       rotate_left
                       ·intro w'
                        go_simp
                        with_reducible rfl
                       rotate_left
                       ·simp only [Act.put, sA, sB, sC, i64_w, i32_w]
                        rfl
                       refine pure_ (i := 28) (N := some 141) (v := ?_) (a' := ?_) #[X,X,X,X,X,X,X,X,X,X,X,X,X,X,X,X,X,X,X,X,X,X,X,X,X,X,X,X,X,Z,Z,Z,Z,Z,Z,Z] rfl rfl (any_of HT_.out (by kernel_rfl)) (fun _ _ _ h => h) (Or.inl ⟨by rfl, ?_⟩) ?_ ?_
                       rotate_left
                       ·intro w'
                        go_simp
                        with_reducible rfl
                       rotate_left
                       ·simp only [Act.put, sA, sB, sC, i64_w, i32_w]
                        rfl
                       refine pure_ (i := 29) (N := some 142) (v := ?_) (a' := ?_) #[X,X,X,X,X,X,X,X,X,X,X,X,X,X,X,X,X,X,X,X,X,X,X,X,X,X,X,X,X,X,Z,Z,Z,Z,Z,Z] rfl rfl (any_of HT_.out (by kernel_rfl)) (fun _ _ _ h => h) (Or.inl ⟨by rfl, ?_⟩) ?_ ?_
                       rotate_left
                       ·intro w'
                        go_simp
                        with_reducible rfl
                       rotate_left
                       ·simp only [Act.put, sA, sB, sC, i64_w, i32_w]
                        rfl
                       refine pure_ (i := 30) (N := some 143) (v := ?_) (a' := ?_) #[X,X,X,X,X,X,X,X,X,X,X,X,X,X,X,X,X,X,X,X,X,X,X,X,X,X,X,X,X,X,X,Z,Z,Z,Z,Z] rfl rfl (any_of HT_.out (by kernel_rfl)) (fun _ _ _ h => h) (Or.inl ⟨by rfl, ?_⟩) ?_ ?_
                       rotate_left
                       ·intro w'
                        go_simp
                        with_reducible rfl
                       rotate_left
                       ·simp only [Act.put, sA, sB, sC, i64_w, i32_w]
                        rfl
                       refine pure_ (i := 31) (N := some 144) (v := ?_) (a' := ?_) #[X,X,X,X,X,X,X,X,X,X,X,X,X,X,X,X,X,X,X,X,X,X,X,X,X,X,X,X,X,X,X,X,Z,Z,Z,Z] rfl rfl (any_of HT_.out (by kernel_rfl)) (fun _ _ _ h => h) (Or.inl ⟨by rfl, ?_⟩) ?_ ?_
                       rotate_left
                       ·intro w'
                        go_simp
                        with_reducible rfl
                       rotate_left
                       ·simp only [Act.put, sA, sB, sC, i64_w, i32_w]
                        rfl
                       refine pure_ (i := 32) (N := some 145) (v := ?_) (a' := ?_) #[X,X,X,X,X,X,X,X,X,X,X,X,X,X,X,X,X,X,X,X,X,X,X,X,X,X,X,X,X,X,X,X,X,Z,Z,Z] rfl rfl (any_of HT_.out (by kernel_rfl)) (fun _ _ _ h => h) (Or.inl ⟨by rfl, ?_⟩) ?_ ?_
                       rotate_left
                       ·intro w'
                        go_simp
                        with_reducible rfl
                       rotate_left
                       ·simp only [Act.put, sA, sB, sC, i64_w, i32_w]
                        rfl
                       refine pure_ (i := 33) (N := some 146) (v := ?_) (a' := ?_) #[X,X,X,X,X,X,X,X,X,X,X,X,X,X,X,X,X,X,X,X,X,X,X,X,X,X,X,X,X,X,X,X,X,X,Z,Z] rfl rfl (any_of HT_.out (by kernel_rfl)) (fun _ _ _ h => h) (Or.inl ⟨by rfl, ?_⟩) ?_ ?_
                       rotate_left
                       ·intro w'
                        go_simp
                        with_reducible rfl
                       rotate_left
                       ·simp only [Act.put, sA, sB, sC, i64_w, i32_w]
                        rfl
                       refine pure_ (i := 34) (N := some 147) (v := ?_) (a' := ?_) #[X,X,X,X,X,X,X,X,X,X,X,X,X,X,X,X,X,X,X,X,X,X,X,X,X,X,X,X,X,X,X,X,X,X,X,Z] rfl rfl (any_of HT_.out (by kernel_rfl)) (fun _ _ _ h => h) (Or.inl ⟨by rfl, ?_⟩) ?_ ?_
                       rotate_left
                       ·intro w'
                        go_simp
                        with_reducible rfl
                       rotate_left
                       ·simp only [Act.put, sA, sB, sC, i64_w, i32_w]
                        rfl
                       refine pure_ (i := 35) (N := some 0) (v := ?_) (a' := ?_) #[X,X,X,X,X,X,X,X,X,X,X,X,X,X,X,X,X,X,X,X,X,X,X,X,X,X,X,X,X,X,X,X,X,X,X,X] rfl rfl (any_of HT_.out (by kernel_rfl)) (fun _ _ _ h => h) (Or.inl ⟨by rfl, ?_⟩) ?_ ?_
                       rotate_left
                       ·intro w'
                        go_simp
                        with_reducible rfl
                       rotate_left
                       ·simp only [Act.put, sA, sB, sC, i64_w, i32_w]
                        rfl
                       refine done_ (done_of HT_.out (by kernel_rfl)) ?_
                       try go_wp2
                       go_ret
                       exact ⟨by first | rfl | (simp [errW_none, errW_some] <;> rfl) | (simp [*, errW_none, errW_some] <;> rfl) | (simp (discharger := omega) only [Int.tdiv_eq_ediv_of_nonneg, Int.tmod_eq_emod_of_nonneg] <;> rfl), by repeat (first | (with_reducible first | exact HB.out | apply below_alloc | apply pw_below_drewN | apply below_drew1 | refine below_set ?_ GE285.out | refine below_set ?_ GE315.out) | exact HB.out)⟩
                      ·replace c69 := Bool.eq_false_iff.mpr c69
                       subst c69
                       have H1 : (none) = some r := by rw [if_neg (show ¬ (false = true) by decide)] at H; exact H
                       clear H
                       have H := H1
                       clear H1
                       exact absurd H (by simp)
                     ·replace c68 := Bool.eq_false_iff.mpr c68
                      subst c68
                      have H1 : (none) = some r := by rw [if_neg (show ¬ (false = true) by decide)] at H; exact H
                      clear H
                      have H := H1
                      clear H1
                      exact absurd H (by simp)
                    ·rw [if_neg c67] at H
                     have c67b0 : (t294 == 0) = false := beq_eq_false_iff_ne.mpr c67
                     have c67b1 : (t294 != 0) = true := bne_iff_ne.mpr c67
                     exact absurd H (by simp)
                   ·rw [if_neg c66] at H
                    have c66b0 : (t295 == 0) = false := beq_eq_false_iff_ne.mpr c66
                    have c66b1 : (t295 != 0) = true := bne_iff_ne.mpr c66
                    exact absurd H (by simp)
                  ·rw [if_neg c65] at H
                   have c65b0 : (t289 == 1) = false := beq_eq_false_iff_ne.mpr c65
                   have c65b1 : (t289 != 1) = true := bne_iff_ne.mpr c65
                   exact absurd H (by simp)
                 ·rw [if_neg c64] at H
                  have c64b0 : (t290 == 0) = false := beq_eq_false_iff_ne.mpr c64
                  have c64b1 : (t290 != 0) = true := bne_iff_ne.mpr c64
                  exact absurd H (by simp)
                ·rw [if_neg c63] at H
                 have c63b0 : (t281 == t393 && (t282 == t394 && (t283 == t395))) = false := by simpa using c63
                 (try (have c63b1 : decide (t281 = t393 && (t282 == t394 && (t283 == t395))) = false := by simpa using c63))
                 (try (have c63b2 : (t281 == t393 && (t282 == t394 && (t283 == t395))) = false := by simpa using c63))
                 (try (have c63b3 : ¬ (t281 = t393 && (t282 == t394 && (t283 == t395))) := by simpa using c63))
                 clear c63
                 exact absurd H (by simp)
               ·rw [if_neg c61] at H
                have c61b0 : (t284 == 0) = false := beq_eq_false_iff_ne.mpr c61
                have c61b1 : (t284 != 0) = true := bne_iff_ne.mpr c61
                exact absurd H (by simp)
              ·replace c60 := Bool.eq_false_iff.mpr c60
               subst c60
               have H1 : (none) = some r := by rw [if_neg (show ¬ (false = true) by decide)] at H; exact H
               clear H
               have H := H1
               clear H1
               exact absurd H (by simp)
             ·rw [if_neg c56] at H
              have c56b0 : (t387 == 3) = false := beq_eq_false_iff_ne.mpr c56
              have c56b1 : (t387 != 3) = true := bne_iff_ne.mpr c56
              replace H := Option.bind_eq_some_iff.mp H
              obtain ⟨t396, A1230, H⟩ := H
              replace H : (if t396 = true then (if t284 = 0 then ((tipstafflaw16_at.f 0 3 0).bind fun bt397 => (if (t281 == bt397.1 && (t282 == bt397.2.1 && (t283 == bt397.2.2))) = true then (if t290 = 0 then (if t289 = 1 then (if t295 = 0 then (if t294 = 0 then (if t357 = true then (if t383 = true then (none) else (none)) else (none)) else (none)) else (none)) else (none)) else (none)) else (none))) else (none)) else (none)) = some r := H
              have A123 := Aside0.mk A1230
              clear A1230
              by_cases c124 : t396 = true
              ·subst c124
               have H1 : (if t284 = 0 then ((tipstafflaw16_at.f 0 3 0).bind fun bt397 => (if (t281 == bt397.1 && (t282 == bt397.2.1 && (t283 == bt397.2.2))) = true then (if t290 = 0 then (if t289 = 1 then (if t295 = 0 then (if t294 = 0 then (if t357 = true then (if t383 = true then (none) else (none)) else (none)) else (none)) else (none)) else (none)) else (none)) else (none))) else (none)) = some r := by rw [if_pos rfl] at H; exact H
               clear H
               have H := H1
               clear H1
               by_cases c125 : t284 = 0
               ·rw [if_pos c125] at H
                have c125b0 : (t284 == 0) = true := beq_iff_eq.mpr c125
                have c125b1 : (t284 != 0) = false := bne_eq_false_iff_eq.mpr c125
                clear c125
                replace H := Option.bind_eq_some_iff.mp H
                obtain ⟨⟨t397, t398, t399⟩, A1260, H⟩ := H
                replace H : (if (t281 == t397 && (t282 == t398 && (t283 == t399))) = true then (if t290 = 0 then (if t289 = 1 then (if t295 = 0 then (if t294 = 0 then (if t357 = true then (if t383 = true then (none) else (none)) else (none)) else (none)) else (none)) else (none)) else (none)) else (none)) = some r := H
                have A126 := Aside0.mk A1260
                clear A1260
                by_cases c127 : (t281 == t397 && (t282 == t398 && (t283 == t399))) = true
                ·rw [if_pos c127] at H
                 have c127b0 : (t281 == t397 && (t282 == t398 && (t283 == t399))) = true := c127
                 (try (have c127b1 : decide (t281 = t397 && (t282 == t398 && (t283 == t399))) = true := by simpa using c127))
                 (try (have c127b2 : (t281 == t397 && (t282 == t398 && (t283 == t399))) = true := by simpa using c127))
                 clear c127
                 by_cases c128 : t290 = 0
                 ·rw [if_pos c128] at H
                  have c128b0 : (t290 == 0) = true := beq_iff_eq.mpr c128
                  have c128b1 : (t290 != 0) = false := bne_eq_false_iff_eq.mpr c128
                  clear c128
                  by_cases c129 : t289 = 1
                  ·rw [if_pos c129] at H
                   have c129b0 : (t289 == 1) = true := beq_iff_eq.mpr c129
                   have c129b1 : (t289 != 1) = false := bne_eq_false_iff_eq.mpr c129
                   clear c129
                   by_cases c130 : t295 = 0
                   ·rw [if_pos c130] at H
                    have c130b0 : (t295 == 0) = true := beq_iff_eq.mpr c130
                    have c130b1 : (t295 != 0) = false := bne_eq_false_iff_eq.mpr c130
                    clear c130
                    by_cases c131 : t294 = 0
                    ·rw [if_pos c131] at H
                     have c131b0 : (t294 == 0) = true := beq_iff_eq.mpr c131
                     have c131b1 : (t294 != 0) = false := bne_eq_false_iff_eq.mpr c131
                     clear c131
                     by_cases c132 : t357 = true
                     ·subst c132
                      have H1 : (if t383 = true then (none) else (none)) = some r := by rw [if_pos rfl] at H; exact H
                      clear H
                      have H := H1
                      clear H1
                      by_cases c133 : t383 = true
                      ·subst c133
                       have H1 : (none) = some r := by rw [if_pos rfl] at H; exact H
                       clear H
                       have H := H1
                       clear H1
                       exact absurd H (by simp)
                      ·replace c133 := Bool.eq_false_iff.mpr c133
                       subst c133
                       have H1 : (none) = some r := by rw [if_neg (show ¬ (false = true) by decide)] at H; exact H
                       clear H
                       have H := H1
                       clear H1
                       exact absurd H (by simp)
                     ·replace c132 := Bool.eq_false_iff.mpr c132
                      subst c132
                      have H1 : (none) = some r := by rw [if_neg (show ¬ (false = true) by decide)] at H; exact H
                      clear H
                      have H := H1
                      clear H1
                      exact absurd H (by simp)
                    ·rw [if_neg c131] at H
                     have c131b0 : (t294 == 0) = false := beq_eq_false_iff_ne.mpr c131
                     have c131b1 : (t294 != 0) = true := bne_iff_ne.mpr c131
                     exact absurd H (by simp)
                   ·rw [if_neg c130] at H
                    have c130b0 : (t295 == 0) = false := beq_eq_false_iff_ne.mpr c130
                    have c130b1 : (t295 != 0) = true := bne_iff_ne.mpr c130
                    exact absurd H (by simp)
                  ·rw [if_neg c129] at H
                   have c129b0 : (t289 == 1) = false := beq_eq_false_iff_ne.mpr c129
                   have c129b1 : (t289 != 1) = true := bne_iff_ne.mpr c129
                   exact absurd H (by simp)
                 ·rw [if_neg c128] at H
                  have c128b0 : (t290 == 0) = false := beq_eq_false_iff_ne.mpr c128
                  have c128b1 : (t290 != 0) = true := bne_iff_ne.mpr c128
                  exact absurd H (by simp)
                ·rw [if_neg c127] at H
                 have c127b0 : (t281 == t397 && (t282 == t398 && (t283 == t399))) = false := by simpa using c127
                 (try (have c127b1 : decide (t281 = t397 && (t282 == t398 && (t283 == t399))) = false := by simpa using c127))
                 (try (have c127b2 : (t281 == t397 && (t282 == t398 && (t283 == t399))) = false := by simpa using c127))
                 (try (have c127b3 : ¬ (t281 = t397 && (t282 == t398 && (t283 == t399))) := by simpa using c127))
                 clear c127
                 exact absurd H (by simp)
               ·rw [if_neg c125] at H
                have c125b0 : (t284 == 0) = false := beq_eq_false_iff_ne.mpr c125
                have c125b1 : (t284 != 0) = true := bne_iff_ne.mpr c125
                exact absurd H (by simp)
              ·replace c124 := Bool.eq_false_iff.mpr c124
               subst c124
               have H1 : (none) = some r := by rw [if_neg (show ¬ (false = true) by decide)] at H; exact H
               clear H
               have H := H1
               clear H1
               exact absurd H (by simp)
            ·rw [if_neg c53] at H
             have c53b0 : (t314 == 11) = false := beq_eq_false_iff_ne.mpr c53
             have c53b1 : (t314 != 11) = true := bne_iff_ne.mpr c53
             replace H := Option.bind_eq_some_iff.mp H
             obtain ⟨t400, A1340, H⟩ := H
             replace H : (if t400 = true then (if t284 = 0 then ((tipstafflaw16_at.f 0 3 0).bind fun bt401 => (if (t281 == bt401.1 && (t282 == bt401.2.1 && (t283 == bt401.2.2))) = true then (if t290 = 0 then (if t289 = 1 then (if t295 = 0 then (if t294 = 0 then (if t357 = true then (if t383 = true then (none) else (none)) else (none)) else (none)) else (none)) else (none)) else (none)) else (none))) else (none)) else (none)) = some r := H
             have A134 := Aside0.mk A1340
             clear A1340
             by_cases c135 : t400 = true
             ·subst c135
              have H1 : (if t284 = 0 then ((tipstafflaw16_at.f 0 3 0).bind fun bt401 => (if (t281 == bt401.1 && (t282 == bt401.2.1 && (t283 == bt401.2.2))) = true then (if t290 = 0 then (if t289 = 1 then (if t295 = 0 then (if t294 = 0 then (if t357 = true then (if t383 = true then (none) else (none)) else (none)) else (none)) else (none)) else (none)) else (none)) else (none))) else (none)) = some r := by rw [if_pos rfl] at H; exact H
              clear H
              have H := H1
              clear H1
              by_cases c136 : t284 = 0
              ·rw [if_pos c136] at H
               have c136b0 : (t284 == 0) = true := beq_iff_eq.mpr c136
               have c136b1 : (t284 != 0) = false := bne_eq_false_iff_eq.mpr c136
               clear c136
               replace H := Option.bind_eq_some_iff.mp H
               obtain ⟨⟨t401, t402, t403⟩, A1370, H⟩ := H
               replace H : (if (t281 == t401 && (t282 == t402 && (t283 == t403))) = true then (if t290 = 0 then (if t289 = 1 then (if t295 = 0 then (if t294 = 0 then (if t357 = true then (if t383 = true then (none) else (none)) else (none)) else (none)) else (none)) else (none)) else (none)) else (none)) = some r := H
               have A137 := Aside0.mk A1370
               clear A1370
               by_cases c138 : (t281 == t401 && (t282 == t402 && (t283 == t403))) = true
               ·rw [if_pos c138] at H
                have c138b0 : (t281 == t401 && (t282 == t402 && (t283 == t403))) = true := c138
                (try (have c138b1 : decide (t281 = t401 && (t282 == t402 && (t283 == t403))) = true := by simpa using c138))
                (try (have c138b2 : (t281 == t401 && (t282 == t402 && (t283 == t403))) = true := by simpa using c138))
                clear c138
                by_cases c139 : t290 = 0
                ·rw [if_pos c139] at H
                 have c139b0 : (t290 == 0) = true := beq_iff_eq.mpr c139
                 have c139b1 : (t290 != 0) = false := bne_eq_false_iff_eq.mpr c139
                 clear c139
                 by_cases c140 : t289 = 1
                 ·rw [if_pos c140] at H
                  have c140b0 : (t289 == 1) = true := beq_iff_eq.mpr c140
                  have c140b1 : (t289 != 1) = false := bne_eq_false_iff_eq.mpr c140
                  clear c140
                  by_cases c141 : t295 = 0
                  ·rw [if_pos c141] at H
                   have c141b0 : (t295 == 0) = true := beq_iff_eq.mpr c141
                   have c141b1 : (t295 != 0) = false := bne_eq_false_iff_eq.mpr c141
                   clear c141
                   by_cases c142 : t294 = 0
                   ·rw [if_pos c142] at H
                    have c142b0 : (t294 == 0) = true := beq_iff_eq.mpr c142
                    have c142b1 : (t294 != 0) = false := bne_eq_false_iff_eq.mpr c142
                    clear c142
                    by_cases c143 : t357 = true
                    ·subst c143
                     have H1 : (if t383 = true then (none) else (none)) = some r := by rw [if_pos rfl] at H; exact H
                     clear H
                     have H := H1
                     clear H1
                     by_cases c144 : t383 = true
                     ·subst c144
                      have H1 : (none) = some r := by rw [if_pos rfl] at H; exact H
                      clear H
                      have H := H1
                      clear H1
                      exact absurd H (by simp)
                     ·replace c144 := Bool.eq_false_iff.mpr c144
                      subst c144
                      have H1 : (none) = some r := by rw [if_neg (show ¬ (false = true) by decide)] at H; exact H
                      clear H
                      have H := H1
                      clear H1
                      exact absurd H (by simp)
                    ·replace c143 := Bool.eq_false_iff.mpr c143
                     subst c143
                     have H1 : (none) = some r := by rw [if_neg (show ¬ (false = true) by decide)] at H; exact H
                     clear H
                     have H := H1
                     clear H1
                     exact absurd H (by simp)
                   ·rw [if_neg c142] at H
                    have c142b0 : (t294 == 0) = false := beq_eq_false_iff_ne.mpr c142
                    have c142b1 : (t294 != 0) = true := bne_iff_ne.mpr c142
                    exact absurd H (by simp)
                  ·rw [if_neg c141] at H
                   have c141b0 : (t295 == 0) = false := beq_eq_false_iff_ne.mpr c141
                   have c141b1 : (t295 != 0) = true := bne_iff_ne.mpr c141
                   exact absurd H (by simp)
                 ·rw [if_neg c140] at H
                  have c140b0 : (t289 == 1) = false := beq_eq_false_iff_ne.mpr c140
                  have c140b1 : (t289 != 1) = true := bne_iff_ne.mpr c140
                  exact absurd H (by simp)
                ·rw [if_neg c139] at H
                 have c139b0 : (t290 == 0) = false := beq_eq_false_iff_ne.mpr c139
                 have c139b1 : (t290 != 0) = true := bne_iff_ne.mpr c139
                 exact absurd H (by simp)
               ·rw [if_neg c138] at H
                have c138b0 : (t281 == t401 && (t282 == t402 && (t283 == t403))) = false := by simpa using c138
                (try (have c138b1 : decide (t281 = t401 && (t282 == t402 && (t283 == t403))) = false := by simpa using c138))
                (try (have c138b2 : (t281 == t401 && (t282 == t402 && (t283 == t403))) = false := by simpa using c138))
                (try (have c138b3 : ¬ (t281 = t401 && (t282 == t402 && (t283 == t403))) := by simpa using c138))
                clear c138
                exact absurd H (by simp)
              ·rw [if_neg c136] at H
               have c136b0 : (t284 == 0) = false := beq_eq_false_iff_ne.mpr c136
               have c136b1 : (t284 != 0) = true := bne_iff_ne.mpr c136
               exact absurd H (by simp)
             ·replace c135 := Bool.eq_false_iff.mpr c135
              subst c135
              have H1 : (none) = some r := by rw [if_neg (show ¬ (false = true) by decide)] at H; exact H
              clear H
              have H := H1
              clear H1
              exact absurd H (by simp)
           ·rw [if_neg c52] at H
            have c52b0 : (t307 == 2) = false := beq_eq_false_iff_ne.mpr c52
            have c52b1 : (t307 != 2) = true := bne_iff_ne.mpr c52
            replace H := Option.bind_eq_some_iff.mp H
            obtain ⟨t404, A1450, H⟩ := H
            replace H : (if t404 = true then (if t284 = 0 then ((tipstafflaw16_at.f 0 3 0).bind fun bt405 => (if (t281 == bt405.1 && (t282 == bt405.2.1 && (t283 == bt405.2.2))) = true then (if t290 = 0 then (if t289 = 1 then (if t295 = 0 then (if t294 = 0 then (if t357 = true then (if t383 = true then (none) else (none)) else (none)) else (none)) else (none)) else (none)) else (none)) else (none))) else (none)) else (none)) = some r := H
            have A145 := Aside0.mk A1450
            clear A1450
            by_cases c146 : t404 = true
            ·subst c146
             have H1 : (if t284 = 0 then ((tipstafflaw16_at.f 0 3 0).bind fun bt405 => (if (t281 == bt405.1 && (t282 == bt405.2.1 && (t283 == bt405.2.2))) = true then (if t290 = 0 then (if t289 = 1 then (if t295 = 0 then (if t294 = 0 then (if t357 = true then (if t383 = true then (none) else (none)) else (none)) else (none)) else (none)) else (none)) else (none)) else (none))) else (none)) = some r := by rw [if_pos rfl] at H; exact H
             clear H
             have H := H1
             clear H1
             by_cases c147 : t284 = 0
             ·rw [if_pos c147] at H
              have c147b0 : (t284 == 0) = true := beq_iff_eq.mpr c147
              have c147b1 : (t284 != 0) = false := bne_eq_false_iff_eq.mpr c147
              clear c147
              replace H := Option.bind_eq_some_iff.mp H
              obtain ⟨⟨t405, t406, t407⟩, A1480, H⟩ := H
              replace H : (if (t281 == t405 && (t282 == t406 && (t283 == t407))) = true then (if t290 = 0 then (if t289 = 1 then (if t295 = 0 then (if t294 = 0 then (if t357 = true then (if t383 = true then (none) else (none)) else (none)) else (none)) else (none)) else (none)) else (none)) else (none)) = some r := H
              have A148 := Aside0.mk A1480
              clear A1480
              by_cases c149 : (t281 == t405 && (t282 == t406 && (t283 == t407))) = true
              ·rw [if_pos c149] at H
               have c149b0 : (t281 == t405 && (t282 == t406 && (t283 == t407))) = true := c149
               (try (have c149b1 : decide (t281 = t405 && (t282 == t406 && (t283 == t407))) = true := by simpa using c149))
               (try (have c149b2 : (t281 == t405 && (t282 == t406 && (t283 == t407))) = true := by simpa using c149))
               clear c149
               by_cases c150 : t290 = 0
               ·rw [if_pos c150] at H
                have c150b0 : (t290 == 0) = true := beq_iff_eq.mpr c150
                have c150b1 : (t290 != 0) = false := bne_eq_false_iff_eq.mpr c150
                clear c150
                by_cases c151 : t289 = 1
                ·rw [if_pos c151] at H
                 have c151b0 : (t289 == 1) = true := beq_iff_eq.mpr c151
                 have c151b1 : (t289 != 1) = false := bne_eq_false_iff_eq.mpr c151
                 clear c151
                 by_cases c152 : t295 = 0
                 ·rw [if_pos c152] at H
                  have c152b0 : (t295 == 0) = true := beq_iff_eq.mpr c152
                  have c152b1 : (t295 != 0) = false := bne_eq_false_iff_eq.mpr c152
                  clear c152
                  by_cases c153 : t294 = 0
                  ·rw [if_pos c153] at H
                   have c153b0 : (t294 == 0) = true := beq_iff_eq.mpr c153
                   have c153b1 : (t294 != 0) = false := bne_eq_false_iff_eq.mpr c153
                   clear c153
                   by_cases c154 : t357 = true
                   ·subst c154
                    have H1 : (if t383 = true then (none) else (none)) = some r := by rw [if_pos rfl] at H; exact H
                    clear H
                    have H := H1
                    clear H1
                    by_cases c155 : t383 = true
                    ·subst c155
                     have H1 : (none) = some r := by rw [if_pos rfl] at H; exact H
                     clear H
                     have H := H1
                     clear H1
                     exact absurd H (by simp)
                    ·replace c155 := Bool.eq_false_iff.mpr c155
                     subst c155
                     have H1 : (none) = some r := by rw [if_neg (show ¬ (false = true) by decide)] at H; exact H
                     clear H
                     have H := H1
                     clear H1
                     exact absurd H (by simp)
                   ·replace c154 := Bool.eq_false_iff.mpr c154
                    subst c154
                    have H1 : (none) = some r := by rw [if_neg (show ¬ (false = true) by decide)] at H; exact H
                    clear H
                    have H := H1
                    clear H1
                    exact absurd H (by simp)
                  ·rw [if_neg c153] at H
                   have c153b0 : (t294 == 0) = false := beq_eq_false_iff_ne.mpr c153
                   have c153b1 : (t294 != 0) = true := bne_iff_ne.mpr c153
                   exact absurd H (by simp)
                 ·rw [if_neg c152] at H
                  have c152b0 : (t295 == 0) = false := beq_eq_false_iff_ne.mpr c152
                  have c152b1 : (t295 != 0) = true := bne_iff_ne.mpr c152
                  exact absurd H (by simp)
                ·rw [if_neg c151] at H
                 have c151b0 : (t289 == 1) = false := beq_eq_false_iff_ne.mpr c151
                 have c151b1 : (t289 != 1) = true := bne_iff_ne.mpr c151
                 exact absurd H (by simp)
               ·rw [if_neg c150] at H
                have c150b0 : (t290 == 0) = false := beq_eq_false_iff_ne.mpr c150
                have c150b1 : (t290 != 0) = true := bne_iff_ne.mpr c150
                exact absurd H (by simp)
              ·rw [if_neg c149] at H
               have c149b0 : (t281 == t405 && (t282 == t406 && (t283 == t407))) = false := by simpa using c149
               (try (have c149b1 : decide (t281 = t405 && (t282 == t406 && (t283 == t407))) = false := by simpa using c149))
               (try (have c149b2 : (t281 == t405 && (t282 == t406 && (t283 == t407))) = false := by simpa using c149))
               (try (have c149b3 : ¬ (t281 = t405 && (t282 == t406 && (t283 == t407))) := by simpa using c149))
               clear c149
               exact absurd H (by simp)
             ·rw [if_neg c147] at H
              have c147b0 : (t284 == 0) = false := beq_eq_false_iff_ne.mpr c147
              have c147b1 : (t284 != 0) = true := bne_iff_ne.mpr c147
              exact absurd H (by simp)
            ·replace c146 := Bool.eq_false_iff.mpr c146
             subst c146
             have H1 : (none) = some r := by rw [if_neg (show ¬ (false = true) by decide)] at H; exact H
             clear H
             have H := H1
             clear H1
             exact absurd H (by simp)
          ·rw [if_neg c51] at H
           have c51b0 : (t302 == 3) = false := beq_eq_false_iff_ne.mpr c51
           have c51b1 : (t302 != 3) = true := bne_iff_ne.mpr c51
           replace H := Option.bind_eq_some_iff.mp H
           obtain ⟨t408, A1560, H⟩ := H
           replace H : (if t408 = true then (if t284 = 0 then ((tipstafflaw16_at.f 0 3 0).bind fun bt409 => (if (t281 == bt409.1 && (t282 == bt409.2.1 && (t283 == bt409.2.2))) = true then (if t290 = 0 then (if t289 = 1 then (if t295 = 0 then (if t294 = 0 then (if t357 = true then (if t383 = true then (none) else (none)) else (none)) else (none)) else (none)) else (none)) else (none)) else (none))) else (none)) else (none)) = some r := H
           have A156 := Aside0.mk A1560
           clear A1560
           by_cases c157 : t408 = true
           ·subst c157
            have H1 : (if t284 = 0 then ((tipstafflaw16_at.f 0 3 0).bind fun bt409 => (if (t281 == bt409.1 && (t282 == bt409.2.1 && (t283 == bt409.2.2))) = true then (if t290 = 0 then (if t289 = 1 then (if t295 = 0 then (if t294 = 0 then (if t357 = true then (if t383 = true then (none) else (none)) else (none)) else (none)) else (none)) else (none)) else (none)) else (none))) else (none)) = some r := by rw [if_pos rfl] at H; exact H
            clear H
            have H := H1
            clear H1
            by_cases c158 : t284 = 0
            ·rw [if_pos c158] at H
             have c158b0 : (t284 == 0) = true := beq_iff_eq.mpr c158
             have c158b1 : (t284 != 0) = false := bne_eq_false_iff_eq.mpr c158
             clear c158
             replace H := Option.bind_eq_some_iff.mp H
             obtain ⟨⟨t409, t410, t411⟩, A1590, H⟩ := H
             replace H : (if (t281 == t409 && (t282 == t410 && (t283 == t411))) = true then (if t290 = 0 then (if t289 = 1 then (if t295 = 0 then (if t294 = 0 then (if t357 = true then (if t383 = true then (none) else (none)) else (none)) else (none)) else (none)) else (none)) else (none)) else (none)) = some r := H
             have A159 := Aside0.mk A1590
             clear A1590
             by_cases c160 : (t281 == t409 && (t282 == t410 && (t283 == t411))) = true
             ·rw [if_pos c160] at H
              have c160b0 : (t281 == t409 && (t282 == t410 && (t283 == t411))) = true := c160
              (try (have c160b1 : decide (t281 = t409 && (t282 == t410 && (t283 == t411))) = true := by simpa using c160))
              (try (have c160b2 : (t281 == t409 && (t282 == t410 && (t283 == t411))) = true := by simpa using c160))
              clear c160
              by_cases c161 : t290 = 0
              ·rw [if_pos c161] at H
               have c161b0 : (t290 == 0) = true := beq_iff_eq.mpr c161
               have c161b1 : (t290 != 0) = false := bne_eq_false_iff_eq.mpr c161
               clear c161
               by_cases c162 : t289 = 1
               ·rw [if_pos c162] at H
                have c162b0 : (t289 == 1) = true := beq_iff_eq.mpr c162
                have c162b1 : (t289 != 1) = false := bne_eq_false_iff_eq.mpr c162
                clear c162
                by_cases c163 : t295 = 0
                ·rw [if_pos c163] at H
                 have c163b0 : (t295 == 0) = true := beq_iff_eq.mpr c163
                 have c163b1 : (t295 != 0) = false := bne_eq_false_iff_eq.mpr c163
                 clear c163
                 by_cases c164 : t294 = 0
                 ·rw [if_pos c164] at H
                  have c164b0 : (t294 == 0) = true := beq_iff_eq.mpr c164
                  have c164b1 : (t294 != 0) = false := bne_eq_false_iff_eq.mpr c164
                  clear c164
                  by_cases c165 : t357 = true
                  ·subst c165
                   have H1 : (if t383 = true then (none) else (none)) = some r := by rw [if_pos rfl] at H; exact H
                   clear H
                   have H := H1
                   clear H1
                   by_cases c166 : t383 = true
                   ·subst c166
                    have H1 : (none) = some r := by rw [if_pos rfl] at H; exact H
                    clear H
                    have H := H1
                    clear H1
                    exact absurd H (by simp)
                   ·replace c166 := Bool.eq_false_iff.mpr c166
                    subst c166
                    have H1 : (none) = some r := by rw [if_neg (show ¬ (false = true) by decide)] at H; exact H
                    clear H
                    have H := H1
                    clear H1
                    exact absurd H (by simp)
                  ·replace c165 := Bool.eq_false_iff.mpr c165
                   subst c165
                   have H1 : (none) = some r := by rw [if_neg (show ¬ (false = true) by decide)] at H; exact H
                   clear H
                   have H := H1
                   clear H1
                   exact absurd H (by simp)
                 ·rw [if_neg c164] at H
                  have c164b0 : (t294 == 0) = false := beq_eq_false_iff_ne.mpr c164
                  have c164b1 : (t294 != 0) = true := bne_iff_ne.mpr c164
                  exact absurd H (by simp)
                ·rw [if_neg c163] at H
                 have c163b0 : (t295 == 0) = false := beq_eq_false_iff_ne.mpr c163
                 have c163b1 : (t295 != 0) = true := bne_iff_ne.mpr c163
                 exact absurd H (by simp)
               ·rw [if_neg c162] at H
                have c162b0 : (t289 == 1) = false := beq_eq_false_iff_ne.mpr c162
                have c162b1 : (t289 != 1) = true := bne_iff_ne.mpr c162
                exact absurd H (by simp)
              ·rw [if_neg c161] at H
               have c161b0 : (t290 == 0) = false := beq_eq_false_iff_ne.mpr c161
               have c161b1 : (t290 != 0) = true := bne_iff_ne.mpr c161
               exact absurd H (by simp)
             ·rw [if_neg c160] at H
              have c160b0 : (t281 == t409 && (t282 == t410 && (t283 == t411))) = false := by simpa using c160
              (try (have c160b1 : decide (t281 = t409 && (t282 == t410 && (t283 == t411))) = false := by simpa using c160))
              (try (have c160b2 : (t281 == t409 && (t282 == t410 && (t283 == t411))) = false := by simpa using c160))
              (try (have c160b3 : ¬ (t281 = t409 && (t282 == t410 && (t283 == t411))) := by simpa using c160))
              clear c160
              exact absurd H (by simp)
            ·rw [if_neg c158] at H
             have c158b0 : (t284 == 0) = false := beq_eq_false_iff_ne.mpr c158
             have c158b1 : (t284 != 0) = true := bne_iff_ne.mpr c158
             exact absurd H (by simp)
           ·replace c157 := Bool.eq_false_iff.mpr c157
            subst c157
            have H1 : (none) = some r := by rw [if_neg (show ¬ (false = true) by decide)] at H; exact H
            clear H
            have H := H1
            clear H1
            exact absurd H (by simp)
         ·replace c47 := Bool.eq_false_iff.mpr c47
          subst c47
          have H1 : (none) = some r := by rw [if_neg (show ¬ (false = true) by decide)] at H; exact H
          clear H
          have H := H1
          clear H1
          exact absurd H (by simp)
        ·replace c43 := Bool.eq_false_iff.mpr c43
         subst c43
         have H1 : (none) = some r := by rw [if_neg (show ¬ (false = true) by decide)] at H; exact H
         clear H
         have H := H1
         clear H1
         exact absurd H (by simp)
       ·replace c40 := Bool.eq_false_iff.mpr c40
        subst c40
        have H1 : (none) = some r := by rw [if_neg (show ¬ (false = true) by decide)] at H; exact H
        clear H
        have H := H1
        clear H1
        exact absurd H (by simp)
      ·replace c37 := Bool.eq_false_iff.mpr c37
       subst c37
       have H1 : (none) = some r := by rw [if_neg (show ¬ (false = true) by decide)] at H; exact H
       clear H
       have H := H1
       clear H1
       exact absurd H (by simp)
     ·replace c31 := Bool.eq_false_iff.mpr c31
      subst c31
      have H1 : (none) = some r := by rw [if_neg (show ¬ (false = true) by decide)] at H; exact H
      clear H
      have H := H1
      clear H1
      exact absurd H (by simp)
    ·replace c27 := Bool.eq_false_iff.mpr c27
     subst c27
     have H1 : (none) = some r := by rw [if_neg (show ¬ (false = true) by decide)] at H; exact H
     clear H
     have H := H1
     clear H1
     exact absurd H (by simp)
   ·replace c23 := Bool.eq_false_iff.mpr c23
    subst c23
    have H1 : (none) = some r := by rw [if_neg (show ¬ (false = true) by decide)] at H; exact H
    clear H
    have H := H1
    clear H1
    exact absurd H (by simp)
  ·replace c19 := Bool.eq_false_iff.mpr c19
   subst c19
   have H1 : (none) = some r := by rw [if_neg (show ¬ (false = true) by decide)] at H; exact H
   clear H
   have H := H1
   clear H1
   exact absurd H (by simp)
 ·replace c15 := Bool.eq_false_iff.mpr c15
  subst c15
  have H1 : (none) = some r := by rw [if_neg (show ¬ (false = true) by decide)] at H; exact H
  clear H
  have H := H1
  clear H1
  exact absurd H (by simp)

/-- THE ONE PURE STATEMENT of tipstafflaw16_PanelKnown: yours. -/
def tipstafflaw16_PanelKnown.Pure : Prop := ∃ k, tipstafflaw16_PanelKnown.f k  = some true
theorem tipstafflaw16_PanelKnown.walk (P : tipstafflaw16_PanelKnown.Pure)  (w : World)  :
  Calls Try.prog 4 #[] w fun e w' => e = .returned (.bool true) ∧ Below w.heap.size w w' := by
 obtain ⟨k, h⟩ := P  
 refine (tipstafflaw16_PanelKnown.calls k  true w h).mono ?_
 rintro e w' ⟨rfl, hd⟩
 exact ⟨rfl, hd⟩

end Go.Proofs.Ytbkidegpgpccfaa.S
