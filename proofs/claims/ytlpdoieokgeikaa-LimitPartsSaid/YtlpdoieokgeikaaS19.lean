-- PRINTED by print.py (a twelfth state) out of the translation. Not trusted: Lean checks it.
import Derived.Test.YtlpdoieokgeikaaS0
import Derived.Test.YtlpdoieokgeikaaS1
import Derived.Test.YtlpdoieokgeikaaS4
import Derived.Test.YtlpdoieokgeikaaS5
import Derived.Test.YtlpdoieokgeikaaS15
import Derived.Test.YtlpdoieokgeikaaS16
import Derived.Test.YtlpdoieokgeikaaHpairs
namespace Go.Proofs.Ytlpdoieokgeikaa.S
open Go.RowKit Go.Proofs.YtlpdoieokgeikaaW.PrintWords Go.Proofs.YtlpdoieokgeikaaW.PrintLast Go.Proofs.YtlpdoieokgeikaaW.PrintMore
attribute [local go_sem] Go.Proofs.YtlpdoieokgeikaaW.PrintXtra.isSome_setCell max2_int min2_int max_two min_two max_three min_three max_four min_four   -- for this text's walks alone
set_option linter.unusedVariables false
set_option linter.unusedSimpArgs false

attribute [local go_sem high] eqA27
/-! ### tipstafflaw14_LimitParts: function 9 -/
mutual
def tipstafflaw14_LimitParts.j0 : Nat → Bool → List (S38) → Bool → Option (Bool)
 | 0, _, _, _ => none
 | k + 1, x5, x6, x79 => if x79 = true then (none) else ((limit_Jumps.f k x6).bind fun bt567 => ((limit_Stops.f k x6).bind fun bt571 => (if bt567.2 = 0 then (tipstafflaw14_LimitParts.j1 k x5 x6 bt567.1 bt571.1 (bt571.2 != 0)) else (tipstafflaw14_LimitParts.j1 k x5 x6 bt567.1 bt571.1 true))))
def tipstafflaw14_LimitParts.j1 : Nat → Bool → List (S38) → List Int → List Int → Bool → Option (Bool)
 | 0, _, _, _, _, _ => none
 | k + 1, x5, x6, x11, x13, x95 => if x95 = true then (none) else (tipstafflaw14_LimitParts.l0 k x5 x6 x11 x13 ([] : List Int) ([] : List Int) 1)
def tipstafflaw14_LimitParts.l0 : Nat → Bool → List (S38) → List Int → List Int → List Int → List Int → Int → Option (Bool)
 | 0, _, _, _, _, _, _, _ => none
 | k + 1, x5, x6, x11, x13, x15, x16, x17 => if x17 < (x6.length : Int) then (if 0 ≤ (wrap64 (x17 - 1)) then (if (wrap64 (x17 - 1)) ≤ (wrap64 (x17 + 1)) then (if (wrap64 (x17 + 1)) ≤ (x6.length : Int) then ((limit_Jumps.f k ((x6.take ((wrap64 (x17 + 1)) : Int).toNat).drop ((wrap64 (x17 - 1)) : Int).toNat)).bind fun bt581 => ((limit_Stops.f k ((x6.take ((wrap64 (x17 + 1)) : Int).toNat).drop ((wrap64 (x17 - 1)) : Int).toNat)).bind fun bt589 => (if bt581.2 = 0 then (if bt589.2 = 0 then (if (bt581.1.length : Int) > 1 then (tipstafflaw14_LimitParts.j3 k x5 x6 x11 x13 x15 x16 x17 bt581.1 bt589.1 true) else (tipstafflaw14_LimitParts.j3 k x5 x6 x11 x13 x15 x16 x17 bt581.1 bt589.1 (decide ((bt589.1.length : Int) > 1)))) else (tipstafflaw14_LimitParts.j3 k x5 x6 x11 x13 x15 x16 x17 bt581.1 bt589.1 true)) else (tipstafflaw14_LimitParts.j3 k x5 x6 x11 x13 x15 x16 x17 bt581.1 bt589.1 true)))) else (none)) else (none)) else (none)) else (if x5 = true then ((tipstaffkit_SameInts.f k x11 x15).bind fun t575 => (if t575 = true then ((tipstaffkit_SameInts.f k x13 x16).bind fun t576 => (some t576)) else (none))) else (none))
def tipstafflaw14_LimitParts.j3 : Nat → Bool → List (S38) → List Int → List Int → List Int → List Int → Int → List Int → List Int → Bool → Option (Bool)
 | 0, _, _, _, _, _, _, _, _, _, _ => none
 | k + 1, x5, x6, x11, x13, x15, x16, x17, x18, x20, x137 => if x137 = true then (none) else (if (x18.length : Int) = 1 then (if x15.length < 17592186044416 then ((some (x15 ++ [x17] : List Int)).bind fun y593 => (if (x20.length : Int) = 1 then (if x16.length < 17592186044416 then (tipstafflaw14_LimitParts.l0 k x5 x6 x11 x13 y593 (x16 ++ [x17]) (wrap64 (x17 + 1))) else (none)) else (tipstafflaw14_LimitParts.l0 k x5 x6 x11 x13 y593 x16 (wrap64 (x17 + 1))))) else (none)) else (if (x20.length : Int) = 1 then (if x16.length < 17592186044416 then (tipstafflaw14_LimitParts.l0 k x5 x6 x11 x13 x15 (x16 ++ [x17]) (wrap64 (x17 + 1))) else (none)) else (tipstafflaw14_LimitParts.l0 k x5 x6 x11 x13 x15 x16 (wrap64 (x17 + 1)))))
end
def tipstafflaw14_LimitParts.f (k : Nat) (l0 : List Int) (a1 : Int) : Option (Bool) := (tipstafflaw14_LimitKnown.f k).bind fun t550 => ((tipstafflaw14_made.f k l0).bind fun t551 => ((tipstaffkit_Mod.f a1 (wrap64 ((t551.length : Int) + 1))).bind fun t554 => ((limit_Watch.f k t551 20 3).bind fun bt555 => (if 0 ≤ t554 then (if t554 ≤ (t551.length : Int) then ((limit_Watch.f k (t551.take (t554 : Int).toNat) 20 3).bind fun bt563 => (if bt555.2.2 = 0 then (if bt563.2.2 = 0 then (if bt555.1 > 0 then (if bt555.2.1 < t554 then (if (!(bt563.1 == bt555.1) || (!(bt563.2.1 == bt555.2.1))) = true then (tipstafflaw14_LimitParts.j0 k t550 t551 true) else (if bt555.1 = 0 then (tipstafflaw14_LimitParts.j0 k t550 t551 (!(bt563.1 == 0) || (!(bt563.2.1 == 0)))) else (if bt555.2.1 ≥ t554 then (tipstafflaw14_LimitParts.j0 k t550 t551 (!(bt563.1 == 0) || (!(bt563.2.1 == 0)))) else (tipstafflaw14_LimitParts.j0 k t550 t551 false)))) else (if bt555.1 = 0 then (tipstafflaw14_LimitParts.j0 k t550 t551 (!(bt563.1 == 0) || (!(bt563.2.1 == 0)))) else (if bt555.2.1 ≥ t554 then (tipstafflaw14_LimitParts.j0 k t550 t551 (!(bt563.1 == 0) || (!(bt563.2.1 == 0)))) else (tipstafflaw14_LimitParts.j0 k t550 t551 false)))) else (if bt555.1 = 0 then (tipstafflaw14_LimitParts.j0 k t550 t551 (!(bt563.1 == 0) || (!(bt563.2.1 == 0)))) else (if bt555.2.1 ≥ t554 then (tipstafflaw14_LimitParts.j0 k t550 t551 (!(bt563.1 == 0) || (!(bt563.2.1 == 0)))) else (tipstafflaw14_LimitParts.j0 k t550 t551 false)))) else (tipstafflaw14_LimitParts.j0 k t550 t551 true)) else (tipstafflaw14_LimitParts.j0 k t550 t551 true))) else (none)) else (none)))))
theorem tipstafflaw14_LimitParts.mono_l : ∀ k, (∀ y0 y1 y2, LeO (tipstafflaw14_LimitParts.j0 k y0 y1 y2) (tipstafflaw14_LimitParts.j0 (k + 1) y0 y1 y2)) ∧ (∀ y0 y1 y2 y3 y4, LeO (tipstafflaw14_LimitParts.j1 k y0 y1 y2 y3 y4) (tipstafflaw14_LimitParts.j1 (k + 1) y0 y1 y2 y3 y4)) ∧ (∀ y0 y1 y2 y3 y4 y5 y6, LeO (tipstafflaw14_LimitParts.l0 k y0 y1 y2 y3 y4 y5 y6) (tipstafflaw14_LimitParts.l0 (k + 1) y0 y1 y2 y3 y4 y5 y6)) ∧ (∀ y0 y1 y2 y3 y4 y5 y6 y7 y8 y9, LeO (tipstafflaw14_LimitParts.j3 k y0 y1 y2 y3 y4 y5 y6 y7 y8 y9) (tipstafflaw14_LimitParts.j3 (k + 1) y0 y1 y2 y3 y4 y5 y6 y7 y8 y9))
 | 0 => ⟨fun _ _ _ r h => by simp [tipstafflaw14_LimitParts.j0] at h, fun _ _ _ _ _ r h => by simp [tipstafflaw14_LimitParts.j1] at h, fun _ _ _ _ _ _ _ r h => by simp [tipstafflaw14_LimitParts.l0] at h, fun _ _ _ _ _ _ _ _ _ _ r h => by simp [tipstafflaw14_LimitParts.j3] at h⟩
 | k + 1 => by
  obtain ⟨ih0, ih1, ih2, ih3⟩ := tipstafflaw14_LimitParts.mono_l k
  refine ⟨?_, ?_, ?_, ?_⟩
  ·intro y0 y1 y2
   unfold tipstafflaw14_LimitParts.j0
   repeat' first
   | (with_reducible exact ih0 _ _ _)
   | (with_reducible exact ih1 _ _ _ _ _)
   | (with_reducible exact ih2 _ _ _ _ _ _ _)
   | (with_reducible exact ih3 _ _ _ _ _ _ _ _ _ _)
   | (with_reducible exact limit_Jumps.mono _ _)
   | (with_reducible exact limit_Stops.mono _ _)
   | (with_reducible exact limit_Watch.mono _ _ _ _)
   | (with_reducible exact tipstaffkit_SameInts.mono _ _ _)
   | (with_reducible exact tipstafflaw14_LimitKnown.mono _)
   | (with_reducible exact tipstafflaw14_made.mono _ _)
   | (with_reducible exact LeO.refl _)
   | (with_reducible exact LeO.none _)
   | (with_reducible refine LeO.ite ?_ ?_)
   | (with_reducible refine LeO.bind ?_ (fun _ => ?_))
   | exact ih0 _ _ _
   | exact ih1 _ _ _ _ _
   | exact ih2 _ _ _ _ _ _ _
   | exact ih3 _ _ _ _ _ _ _ _ _ _
   | exact limit_Jumps.mono _ _
   | exact limit_Stops.mono _ _
   | exact limit_Watch.mono _ _ _ _
   | exact tipstaffkit_SameInts.mono _ _ _
   | exact tipstafflaw14_LimitKnown.mono _
   | exact tipstafflaw14_made.mono _ _
   | exact LeO.none _
   | refine LeO.ite ?_ ?_
   | refine LeO.bind ?_ (fun _ => ?_)
  ·intro y0 y1 y2 y3 y4
   unfold tipstafflaw14_LimitParts.j1
   repeat' first
   | (with_reducible exact ih0 _ _ _)
   | (with_reducible exact ih1 _ _ _ _ _)
   | (with_reducible exact ih2 _ _ _ _ _ _ _)
   | (with_reducible exact ih3 _ _ _ _ _ _ _ _ _ _)
   | (with_reducible exact limit_Jumps.mono _ _)
   | (with_reducible exact limit_Stops.mono _ _)
   | (with_reducible exact limit_Watch.mono _ _ _ _)
   | (with_reducible exact tipstaffkit_SameInts.mono _ _ _)
   | (with_reducible exact tipstafflaw14_LimitKnown.mono _)
   | (with_reducible exact tipstafflaw14_made.mono _ _)
   | (with_reducible exact LeO.refl _)
   | (with_reducible exact LeO.none _)
   | (with_reducible refine LeO.ite ?_ ?_)
   | (with_reducible refine LeO.bind ?_ (fun _ => ?_))
   | exact ih0 _ _ _
   | exact ih1 _ _ _ _ _
   | exact ih2 _ _ _ _ _ _ _
   | exact ih3 _ _ _ _ _ _ _ _ _ _
   | exact limit_Jumps.mono _ _
   | exact limit_Stops.mono _ _
   | exact limit_Watch.mono _ _ _ _
   | exact tipstaffkit_SameInts.mono _ _ _
   | exact tipstafflaw14_LimitKnown.mono _
   | exact tipstafflaw14_made.mono _ _
   | exact LeO.none _
   | refine LeO.ite ?_ ?_
   | refine LeO.bind ?_ (fun _ => ?_)
  ·intro y0 y1 y2 y3 y4 y5 y6
   unfold tipstafflaw14_LimitParts.l0
   repeat' first
   | (with_reducible exact ih0 _ _ _)
   | (with_reducible exact ih1 _ _ _ _ _)
   | (with_reducible exact ih2 _ _ _ _ _ _ _)
   | (with_reducible exact ih3 _ _ _ _ _ _ _ _ _ _)
   | (with_reducible exact limit_Jumps.mono _ _)
   | (with_reducible exact limit_Stops.mono _ _)
   | (with_reducible exact limit_Watch.mono _ _ _ _)
   | (with_reducible exact tipstaffkit_SameInts.mono _ _ _)
   | (with_reducible exact tipstafflaw14_LimitKnown.mono _)
   | (with_reducible exact tipstafflaw14_made.mono _ _)
   | (with_reducible exact LeO.refl _)
   | (with_reducible exact LeO.none _)
   | (with_reducible refine LeO.ite ?_ ?_)
   | (with_reducible refine LeO.bind ?_ (fun _ => ?_))
   | exact ih0 _ _ _
   | exact ih1 _ _ _ _ _
   | exact ih2 _ _ _ _ _ _ _
   | exact ih3 _ _ _ _ _ _ _ _ _ _
   | exact limit_Jumps.mono _ _
   | exact limit_Stops.mono _ _
   | exact limit_Watch.mono _ _ _ _
   | exact tipstaffkit_SameInts.mono _ _ _
   | exact tipstafflaw14_LimitKnown.mono _
   | exact tipstafflaw14_made.mono _ _
   | exact LeO.none _
   | refine LeO.ite ?_ ?_
   | refine LeO.bind ?_ (fun _ => ?_)
  ·intro y0 y1 y2 y3 y4 y5 y6 y7 y8 y9
   unfold tipstafflaw14_LimitParts.j3
   repeat' first
   | (with_reducible exact ih0 _ _ _)
   | (with_reducible exact ih1 _ _ _ _ _)
   | (with_reducible exact ih2 _ _ _ _ _ _ _)
   | (with_reducible exact ih3 _ _ _ _ _ _ _ _ _ _)
   | (with_reducible exact limit_Jumps.mono _ _)
   | (with_reducible exact limit_Stops.mono _ _)
   | (with_reducible exact limit_Watch.mono _ _ _ _)
   | (with_reducible exact tipstaffkit_SameInts.mono _ _ _)
   | (with_reducible exact tipstafflaw14_LimitKnown.mono _)
   | (with_reducible exact tipstafflaw14_made.mono _ _)
   | (with_reducible exact LeO.refl _)
   | (with_reducible exact LeO.none _)
   | (with_reducible refine LeO.ite ?_ ?_)
   | (with_reducible refine LeO.bind ?_ (fun _ => ?_))
   | exact ih0 _ _ _
   | exact ih1 _ _ _ _ _
   | exact ih2 _ _ _ _ _ _ _
   | exact ih3 _ _ _ _ _ _ _ _ _ _
   | exact limit_Jumps.mono _ _
   | exact limit_Stops.mono _ _
   | exact limit_Watch.mono _ _ _ _
   | exact tipstaffkit_SameInts.mono _ _ _
   | exact tipstafflaw14_LimitKnown.mono _
   | exact tipstafflaw14_made.mono _ _
   | exact LeO.none _
   | refine LeO.ite ?_ ?_
   | refine LeO.bind ?_ (fun _ => ?_)
theorem tipstafflaw14_LimitParts.mono : ∀ a0 a1 k, LeO (tipstafflaw14_LimitParts.f k a0 a1) (tipstafflaw14_LimitParts.f (k + 1) a0 a1) := by
 intro a0 a1 k
 obtain ⟨ih0, ih1, ih2, ih3⟩ := tipstafflaw14_LimitParts.mono_l k
 unfold tipstafflaw14_LimitParts.f
 repeat' first
   | (with_reducible exact ih0 _ _ _)
   | (with_reducible exact ih1 _ _ _ _ _)
   | (with_reducible exact ih2 _ _ _ _ _ _ _)
   | (with_reducible exact ih3 _ _ _ _ _ _ _ _ _ _)
   | (with_reducible exact limit_Jumps.mono _ _)
   | (with_reducible exact limit_Stops.mono _ _)
   | (with_reducible exact limit_Watch.mono _ _ _ _)
   | (with_reducible exact tipstaffkit_SameInts.mono _ _ _)
   | (with_reducible exact tipstafflaw14_LimitKnown.mono _)
   | (with_reducible exact tipstafflaw14_made.mono _ _)
   | (with_reducible exact LeO.refl _)
   | (with_reducible exact LeO.none _)
   | (with_reducible refine LeO.ite ?_ ?_)
   | (with_reducible refine LeO.bind ?_ (fun _ => ?_))
   | exact ih0 _ _ _
   | exact ih1 _ _ _ _ _
   | exact ih2 _ _ _ _ _ _ _
   | exact ih3 _ _ _ _ _ _ _ _ _ _
   | exact limit_Jumps.mono _ _
   | exact limit_Stops.mono _ _
   | exact limit_Watch.mono _ _ _ _
   | exact tipstaffkit_SameInts.mono _ _ _
   | exact tipstafflaw14_LimitKnown.mono _
   | exact tipstafflaw14_made.mono _ _
   | exact LeO.none _
   | refine LeO.ite ?_ ?_
   | refine LeO.bind ?_ (fun _ => ?_)
set_option maxHeartbeats 8000000 in
set_option maxRecDepth 100000 in
theorem tipstafflaw14_LimitParts.calls (k : Nat) (A0 : Option Addr) (c0 : Nat) (l0 : List Int) (a1 : Int) (r : Bool) (w : World) (hr0 : Kd.C (Kd.int .i64) w A0 l0.length l0) (hc0 : l0.length ≤ c0) (h : tipstafflaw14_LimitParts.f k l0 a1 = some r) :
  Calls Try.prog 9 #[.slice A0 l0.length c0, .int .i64 a1] w fun e w' => e = .returned (.bool r) ∧ Below w.heap.size w w' := by
 have hu27 := Try.underlying27
 have HR0 := Aside0.mk hr0
 have HC0 := Aside0.mk hc0
 clear hr0 hc0
 have HB := Aside0.mk (Below.refl w.heap.size w)
 have H : ((tipstafflaw14_LimitKnown.f k).bind fun t550 => ((tipstafflaw14_made.f k l0).bind fun t551 => ((tipstaffkit_Mod.f a1 (wrap64 ((t551.length : Int) + 1))).bind fun t554 => ((limit_Watch.f k t551 20 3).bind fun bt555 => (if 0 ≤ t554 then (if t554 ≤ (t551.length : Int) then ((limit_Watch.f k (t551.take (t554 : Int).toNat) 20 3).bind fun bt563 => (if bt555.2.2 = 0 then (if bt563.2.2 = 0 then (if bt555.1 > 0 then (if bt555.2.1 < t554 then (if (!(bt563.1 == bt555.1) || (!(bt563.2.1 == bt555.2.1))) = true then (tipstafflaw14_LimitParts.j0 k t550 t551 true) else (if bt555.1 = 0 then (tipstafflaw14_LimitParts.j0 k t550 t551 (!(bt563.1 == 0) || (!(bt563.2.1 == 0)))) else (if bt555.2.1 ≥ t554 then (tipstafflaw14_LimitParts.j0 k t550 t551 (!(bt563.1 == 0) || (!(bt563.2.1 == 0)))) else (tipstafflaw14_LimitParts.j0 k t550 t551 false)))) else (if bt555.1 = 0 then (tipstafflaw14_LimitParts.j0 k t550 t551 (!(bt563.1 == 0) || (!(bt563.2.1 == 0)))) else (if bt555.2.1 ≥ t554 then (tipstafflaw14_LimitParts.j0 k t550 t551 (!(bt563.1 == 0) || (!(bt563.2.1 == 0)))) else (tipstafflaw14_LimitParts.j0 k t550 t551 false)))) else (if bt555.1 = 0 then (tipstafflaw14_LimitParts.j0 k t550 t551 (!(bt563.1 == 0) || (!(bt563.2.1 == 0)))) else (if bt555.2.1 ≥ t554 then (tipstafflaw14_LimitParts.j0 k t550 t551 (!(bt563.1 == 0) || (!(bt563.2.1 == 0)))) else (tipstafflaw14_LimitParts.j0 k t550 t551 false)))) else (tipstafflaw14_LimitParts.j0 k t550 t551 true)) else (tipstafflaw14_LimitParts.j0 k t550 t551 true))) else (none)) else (none)))))) = some r := h
 clear h
 replace H := Option.bind_eq_some_iff.mp H
 obtain ⟨t550, A30, H⟩ := H
 try dsimp only at H
 have A3 := Aside0.mk A30
 clear A30
 replace H := Option.bind_eq_some_iff.mp H
 obtain ⟨t551, A40, H⟩ := H
 try dsimp only at H
 have A4 := Aside0.mk A40
 clear A40
 replace H := Option.bind_eq_some_iff.mp H
 obtain ⟨t554, A50, H⟩ := H
 try dsimp only at H
 have A5 := Aside0.mk A50
 clear A50
 replace H := Option.bind_eq_some_iff.mp H
 obtain ⟨⟨t555, t556, t557⟩, A60, H⟩ := H
 try dsimp only at H
 have A6 := Aside0.mk A60
 clear A60
 by_cases c7 : 0 ≤ t554
 ·rw [if_pos c7] at H
  have c7b0 := eq_true c7
  have c7b1 : decide (0 ≤ t554) = true := decide_eq_true c7
  clear c7
  by_cases c8 : t554 ≤ (t551.length : Int)
  ·rw [if_pos c8] at H
   have c8b0 := eq_true c8
   have c8b1 : decide (t554 ≤ (t551.length : Int)) = true := decide_eq_true c8
   clear c8
   obtain ⟨y559, hy559⟩ : ∃ y_ : List (S38), y_ = (t551.take (t554 : Int).toNat) := ⟨_, rfl⟩
   replace H : ((limit_Watch.f k y559 20 3).bind fun bt563 => (if t557 = 0 then (if bt563.2.2 = 0 then (if t555 > 0 then (if t556 < t554 then (if (!(bt563.1 == t555) || (!(bt563.2.1 == t556))) = true then (tipstafflaw14_LimitParts.j0 k t550 t551 true) else (if t555 = 0 then (tipstafflaw14_LimitParts.j0 k t550 t551 (!(bt563.1 == 0) || (!(bt563.2.1 == 0)))) else (if t556 ≥ t554 then (tipstafflaw14_LimitParts.j0 k t550 t551 (!(bt563.1 == 0) || (!(bt563.2.1 == 0)))) else (tipstafflaw14_LimitParts.j0 k t550 t551 false)))) else (if t555 = 0 then (tipstafflaw14_LimitParts.j0 k t550 t551 (!(bt563.1 == 0) || (!(bt563.2.1 == 0)))) else (if t556 ≥ t554 then (tipstafflaw14_LimitParts.j0 k t550 t551 (!(bt563.1 == 0) || (!(bt563.2.1 == 0)))) else (tipstafflaw14_LimitParts.j0 k t550 t551 false)))) else (if t555 = 0 then (tipstafflaw14_LimitParts.j0 k t550 t551 (!(bt563.1 == 0) || (!(bt563.2.1 == 0)))) else (if t556 ≥ t554 then (tipstafflaw14_LimitParts.j0 k t550 t551 (!(bt563.1 == 0) || (!(bt563.2.1 == 0)))) else (tipstafflaw14_LimitParts.j0 k t550 t551 false)))) else (tipstafflaw14_LimitParts.j0 k t550 t551 true)) else (tipstafflaw14_LimitParts.j0 k t550 t551 true))) = some r := by first | (rw [hy559]; with_reducible exact H) | (have H2_ := (Option.bind_some _ _).symm.trans H; rw [hy559]; with_reducible exact H2_) | (have H2_ := (Option.bind_some _ _).symm.trans H; with_reducible exact H2_) | with_reducible exact H | (rw [hy559]; exact H) | exact H
   have Ny559 := Aside0.mk hy559
   clear hy559
   replace H := Option.bind_eq_some_iff.mp H
   obtain ⟨⟨t563, t564, t565⟩, A90, H⟩ := H
   try dsimp only at H
   have A9 := Aside0.mk A90
   clear A90
   have HC10 := Aside0.mk H
   clear H
   go_enter Try.func9, Try.ntmps9
   go_upto_region 6 with (first | ((with_reducible refine gate_callee (f := 6) rfl ?_); refine goesL_ (some 22) rfl rfl Try.func6 (by kernel_rfl) rfl #[] rfl (by (try simp only [List.map_toArray, List.map_cons, List.map_nil]); first | done | rfl | (simp only [List.length_drop, List.length_take]; rfl)) ?_; (with_reducible refine (tipstafflaw14_LimitKnown.calls k  t550 _ A3.out).mono ?_); rintro e w11 ⟨rfl, hb⟩; refine ⟨_, rfl, ?_⟩; have n0_ := Aside0.mk (below_step (by repeat (first | (with_reducible first | exact HB.out | apply below_alloc | apply pw_below_drewN | apply below_drew1) | exact HB.out)) hb); clear HB; have HB := n0_; clear n0_; (try clear hb); (try clear hb2); (try clear hk); (try clear hi)) | ((with_reducible refine gate_callee (f := 31) rfl ?_); refine goesL_ (some 24) rfl rfl Try.func31 (by kernel_rfl) rfl #[.slice A0 l0.length c0] rfl (by (try simp only [List.map_toArray, List.map_cons, List.map_nil]); first | done | rfl | (simp only [List.length_drop, List.length_take]; rfl)) ?_; (with_reducible refine (tipstafflaw14_made.calls k _ _ l0 t551 _ ?side1 ?side2 A4.out).mono ?_); (case side1 => repeat (first | exact (Kd.C_below HR0.out HB.out) | (with_reducible refine Kd.C_alloc ?_ _) | (with_reducible refine Kd.C_drewN ?_ _) | (with_reducible refine Kd.C_drew ?_))); (case side2 => exact HC0.out); rintro e w12 ⟨v552, rfl, ho0, hb⟩; refine ⟨_, rfl, ?_⟩; have n0_ := Aside0.mk (Kd.R_lower ho0 (below_size (by repeat (first | (with_reducible first | exact HB.out | apply below_alloc | apply pw_below_drewN | apply below_drew1) | exact HB.out)))); have n1_ := Aside0.mk (below_step (by repeat (first | (with_reducible first | exact HB.out | apply below_alloc | apply pw_below_drewN | apply below_drew1) | exact HB.out)) hb); clear HB; have HO553 := n0_; have HB := n1_; clear n0_ n1_; (try clear hb); (try clear hb2); (try clear hk); (try clear hi); (try clear ho0); obtain ⟨Ao13, co13, eo13⟩ := Kd.R_slice HO553.out; subst eo13) | ((with_reducible refine gate_callee (f := 32) rfl ?_); refine goesL_ (some 29) rfl rfl Try.func32 (by kernel_rfl) rfl #[.int .i64 a1, .int .i64 (wrap64 ((t551.length : Int) + 1))] rfl (by (try simp only [List.map_toArray, List.map_cons, List.map_nil]); first | done | rfl | (simp only [List.length_drop, List.length_take]; rfl)) ?_; (with_reducible refine (tipstaffkit_Mod.calls a1 (wrap64 ((t551.length : Int) + 1)) t554 _ A5.out).mono ?_); rintro e w' ⟨rfl, ⟨nd, rfl⟩⟩; refine ⟨_, rfl, ?_⟩; (try (rw [drewN_self w12]; generalize hq_ : World.drewN w12 _ = w12; have n0_ : Aside0 (Kd.R k38 38 w12 w.heap.size (fun _ => True) (.slice Ao13 t551.length co13) t551) := ⟨by rw [← hq_]; exact (by (with_reducible repeat (first | apply Kd.R_alloc | apply Kd.R_drewN | apply Kd.R_drew)); exact HO553.out)⟩; have n1_ : Aside0 (Below w.heap.size w w12) := ⟨by rw [← hq_]; exact (by repeat (first | (with_reducible first | exact HB.out | apply below_alloc | apply pw_below_drewN | apply below_drew1) | exact HB.out))⟩; clear HO553 HB hq_; have HO553 := n0_; have HB := n1_; clear n0_ n1_))) | ((with_reducible refine gate_callee (f := 13) rfl ?_); refine goesL_ (some 32) rfl rfl Try.func13 (by kernel_rfl) rfl #[.slice Ao13 t551.length co13, .int .i64 20, .int .i64 3] rfl (by (try simp only [List.map_toArray, List.map_cons, List.map_nil]); first | done | rfl | (simp only [List.length_drop, List.length_take]; rfl)) ?_; (with_reducible refine (limit_Watch.calls k _ _ t551 20 3 t555 t556 t557 _ ?side1 ?side2 A6.out).mono ?_); (case side1 => repeat (first | exact (Kd.R_reads' HO553.out).2.2 | (with_reducible refine Kd.C_alloc ?_ _) | (with_reducible refine Kd.C_drewN ?_ _) | (with_reducible refine Kd.C_drew ?_))); (case side2 => exact (Kd.R_reads' HO553.out).2.1); rintro e w14 ⟨rfl, hb⟩; refine ⟨_, rfl, ?_⟩; have n0_ := Aside0.mk (Kd.R_below (by (with_reducible repeat (first | apply Kd.R_alloc | apply Kd.R_drewN | apply Kd.R_drew)); exact HO553.out) hb); have n1_ := Aside0.mk (below_step (by repeat (first | (with_reducible first | exact HB.out | apply below_alloc | apply pw_below_drewN | apply below_drew1) | exact HB.out)) hb); clear HO553; clear HB; have HO553 := n0_; have HB := n1_; clear n0_ n1_; (try clear hb); (try clear hb2); (try clear hk); (try clear hi)) | ((with_reducible refine gate_dst (N := 7) rfl ?_); (try (refine gate_guard (by rfl) ?_; dsimp only)); refine box_event ?hg (N := 7) ?hd (cs := #[.int .i64 0, .int .i64 0]) (t := 27) ?hr ?_; (case hd => rfl); (case hg => rfl); (case hr => first | (go_simp; done) | (go_simp; rfl)); intro gb558 hg w15 hbox hb; have n0_ := Aside0.mk (Kd.R_below (by (with_reducible repeat (first | apply Kd.R_alloc | apply Kd.R_drewN | apply Kd.R_drew)); exact HO553.out) hb); have n1_ := Aside0.mk (below_step (by repeat (first | (with_reducible first | exact HB.out | apply below_alloc | apply pw_below_drewN | apply below_drew1) | exact HB.out)) hb); have n2_ := Aside0.mk (hbox); have n3_ := Aside0.mk ((by rw [hg]; exact (below_size (by repeat (first | (with_reducible first | exact HB.out | apply below_alloc | apply pw_below_drewN | apply below_drew1) | exact HB.out))) : w.heap.size ≤ gb558)); have n4_ := Aside0.mk ((by rw [hg]; exact (below_size (by repeat (first | (with_reducible first | exact HB.out | apply below_alloc | apply pw_below_drewN | apply below_drew1) | exact HB.out))) : w.heap.size ≤ gb558)); clear HO553; clear HB; have HO553 := n0_; have HB := n1_; have BK558 := n2_; have GW558 := n3_; have GE558 := n4_; clear n0_ n1_ n2_ n3_ n4_; clear hb hbox hg; have hcz16_0 : w15.cell? ⟨gb558, 0, none⟩ = some (.int .i64 0) := (blk_cell BK558.out 0).trans rfl; have hcz16_1 : w15.cell? ⟨gb558, 1, none⟩ = some (.int .i64 0) := (blk_cell BK558.out 1).trans rfl; have hfz16_0 := blk_frozen BK558.out 0; have hfz16_1 := blk_frozen BK558.out 1) | ((with_reducible refine gate_store (t := 27) (p := 7) rfl ?_); refine store_event (t := 27) (p := 7) (v := ?vo_w17) (w1 := ((w15.setCell ⟨gb558, 0, none⟩ (.int .i64 t555)).setCell ⟨gb558, 1, none⟩ (.int .i64 t556))) ?hg ?ho ?hn ?hr ?_; (case ho => rfl); (case hg => rfl); (case hn => rfl); (case hr => first | (go_simp; done) | (go_simp; rfl)); intro w17 hw; have n0_ : Aside0 (Kd.R k38 38 w17 w.heap.size (fun _ => True) (.slice Ao13 t551.length co13) t551) := ⟨(by rw [hw]; exact (by (with_reducible repeat (first | apply Kd.R_alloc | apply Kd.R_drewN | apply Kd.R_drew)); exact Kd.R_mono (Kd.R_far (p := ⟨gb558, 1, none⟩) (Kd.R_far (p := ⟨gb558, 0, none⟩) (Kd.R_types HO553.out BK558.out (by decide)) (fun _ hk => hk.2) (.int .i64 t555)) (fun _ hk => hk.2) (.int .i64 t556)) (fun _ hk => trivial)))⟩; have n1_ : Aside0 (w17.heap[gb558]? = some (.cells #[.int .i64 t555, .int .i64 t556] 27 (0, 0))) := ⟨(by rw [hw]; exact (by (with_reducible repeat (first | refine blk_drewN ?_ _ | refine blk_drew ?_ | refine blk_alloc ?_ _)); refine blk_put (cs := #[.int .i64 t555, .int .i64 0]) ?_ 1 _ rfl; (with_reducible repeat (first | refine blk_drewN ?_ _ | refine blk_drew ?_ | refine blk_alloc ?_ _)); refine blk_put (cs := #[.int .i64 0, .int .i64 0]) ?_ 0 _ rfl; (with_reducible repeat (first | refine blk_drewN ?_ _ | refine blk_drew ?_ | refine blk_alloc ?_ _)); exact BK558.out))⟩; have n2_ : Aside0 (Below w.heap.size w w17) := ⟨(by rw [hw]; exact (by repeat (first | (with_reducible first | exact HB.out | apply below_alloc | apply pw_below_drewN | apply below_drew1 | refine below_set ?_ GE558.out) | exact HB.out)))⟩; clear hw; clear HO553; clear BK558; clear HB; have HO553 := n0_; have BK558 := n1_; have HB := n2_; clear n0_ n1_ n2_; have q18 : (t554 : Int) ≤ ((t551.length : Int) : Int) := of_decide_eq_true (by first | (with_reducible assumption) | assumption); obtain ⟨i018, hi018, _, hsz18, _⟩ := info_parts info38; have hroom18 : t551.length ≤ co13 := (Kd.R_reads' HO553.out).2.1; have hC18 : Kd.C k38 _ Ao13 t551.length t551 := (Kd.R_reads' HO553.out).2.2; have hcut18 := cut_to (P := Try.prog) 22 38 .i64 Try.underlying22 hi018 Ao13 t551.length co13 t554 (of_decide_eq_true (by first | (with_reducible assumption) | assumption)) q18 hroom18; have hr18 := Kd.C_take (m := (t554 : Int).toNat) hC18 (by omega); have hy18 : y559.length = (t554 : Int).toNat := (by rw [Ny559.out, List.length_take]; omega); rw [← Ny559.out] at hr18; rw [← hy18] at hcut18; have HR562 := Aside0.mk hr18; have HC562 := Aside0.mk (show y559.length ≤ co13 from by omega); clear hr18 hC18 hroom18 hi018 hsz18; have KY18 := Aside0.mk hy18; clear hy18; have KL18 := Aside0.mk (show (t554 : Int).toNat ≤ t551.length from by omega); replace q18 := eq_true q18) | ((with_reducible refine gate_callee (f := 13) rfl ?_); refine goesL_ (some 39) rfl rfl Try.func13 (by kernel_rfl) rfl #[.slice Ao13 y559.length co13, .int .i64 20, .int .i64 3] rfl (by (try simp only [List.map_toArray, List.map_cons, List.map_nil]); first | done | rfl | (simp only [List.length_drop, List.length_take]; rfl)) ?_; (with_reducible refine (limit_Watch.calls k _ _ y559 20 3 t563 t564 t565 _ ?side1 ?side2 A9.out).mono ?_); (case side1 => repeat (first | exact (by repeat (first | (with_reducible exact HR562.out) | (with_reducible refine Kd.C_alloc ?_ _) | (with_reducible refine Kd.C_drewN ?_ _) | (with_reducible refine Kd.C_drew ?_) | exact HR562.out)) | (with_reducible refine Kd.C_alloc ?_ _) | (with_reducible refine Kd.C_drewN ?_ _) | (with_reducible refine Kd.C_drew ?_))); (case side2 => exact HC562.out); rintro e w19 ⟨rfl, hb⟩; refine ⟨_, rfl, ?_⟩; have n0_ := Aside0.mk (Kd.R_below (by (with_reducible repeat (first | apply Kd.R_alloc | apply Kd.R_drewN | apply Kd.R_drew)); exact HO553.out) hb); have n1_ := Aside0.mk (blk_below (g := gb558) (o := .cells #[.int .i64 t555, .int .i64 t556] 27 (0, 0)) (by (with_reducible repeat (first | refine blk_drewN ?_ _ | refine blk_drew ?_ | refine blk_alloc ?_ _)); exact BK558.out) hb); have n2_ := Aside0.mk (Kd.C_below (by repeat (first | (with_reducible exact HR562.out) | (with_reducible refine Kd.C_alloc ?_ _) | (with_reducible refine Kd.C_drewN ?_ _) | (with_reducible refine Kd.C_drew ?_) | exact HR562.out)) hb); have n3_ := Aside0.mk (below_step (by repeat (first | (with_reducible first | exact HB.out | apply below_alloc | apply pw_below_drewN | apply below_drew1 | refine below_set ?_ GE558.out) | exact HB.out)) hb); clear HO553; clear BK558; clear HR562; clear HB; have HO553 := n0_; have BK558 := n1_; have HR562 := n2_; have HB := n3_; clear n0_ n1_ n2_ n3_; (try clear hb); (try clear hb2); (try clear hk); (try clear hi)) | ((with_reducible refine gate_dst (N := 9) rfl ?_); (try (refine gate_guard (by rfl) ?_; dsimp only)); refine box_event ?hg (N := 9) ?hd (cs := #[.int .i64 0, .int .i64 0]) (t := 27) ?hr ?_; (case hd => rfl); (case hg => rfl); (case hr => first | (go_simp; done) | (go_simp; rfl)); intro gb566 hg w20 hbox hb; have n0_ := Aside0.mk (Kd.R_below (by (with_reducible repeat (first | apply Kd.R_alloc | apply Kd.R_drewN | apply Kd.R_drew)); exact HO553.out) hb); have n1_ := Aside0.mk (blk_below (g := gb558) (o := .cells #[.int .i64 t555, .int .i64 t556] 27 (0, 0)) (by (with_reducible repeat (first | refine blk_drewN ?_ _ | refine blk_drew ?_ | refine blk_alloc ?_ _)); exact BK558.out) hb); have n2_ := Aside0.mk (Kd.C_below (by repeat (first | (with_reducible exact HR562.out) | (with_reducible refine Kd.C_alloc ?_ _) | (with_reducible refine Kd.C_drewN ?_ _) | (with_reducible refine Kd.C_drew ?_) | exact HR562.out)) hb); have n3_ := Aside0.mk (below_step (by repeat (first | (with_reducible first | exact HB.out | apply below_alloc | apply pw_below_drewN | apply below_drew1 | refine below_set ?_ GE558.out) | exact HB.out)) hb); have n4_ := Aside0.mk (hbox); have n5_ := Aside0.mk ((by rw [hg]; exact (below_size (by repeat (first | (with_reducible first | exact HB.out | apply below_alloc | apply pw_below_drewN | apply below_drew1 | refine below_set ?_ GE558.out) | exact HB.out))) : w.heap.size ≤ gb566)); have n6_ := Aside0.mk ((by rw [hg]; exact (below_size (by repeat (first | (with_reducible first | exact HB.out | apply below_alloc | apply pw_below_drewN | apply below_drew1 | refine below_set ?_ GE558.out) | exact HB.out))) : w.heap.size ≤ gb566)); have n7_ := Aside0.mk ((by rw [hg]; exact Nat.ne_of_lt (blk_lt (g := gb558) (o := .cells #[.int .i64 t555, .int .i64 t556] 27 (0, 0)) (by (with_reducible repeat (first | refine blk_drewN ?_ _ | refine blk_drew ?_ | refine blk_alloc ?_ _)); exact BK558.out)) : gb558 ≠ gb566)); have n8_ := Aside0.mk ((by rw [hg]; exact Nat.ne_of_gt (blk_lt (g := gb558) (o := .cells #[.int .i64 t555, .int .i64 t556] 27 (0, 0)) (by (with_reducible repeat (first | refine blk_drewN ?_ _ | refine blk_drew ?_ | refine blk_alloc ?_ _)); exact BK558.out)) : gb566 ≠ gb558)); clear HO553; clear BK558; clear HR562; clear HB; have HO553 := n0_; have BK558 := n1_; have HR562 := n2_; have HB := n3_; have BK566 := n4_; have GW566 := n5_; have GE566 := n6_; have NB558_566 := n7_; have NB566_558 := n8_; clear n0_ n1_ n2_ n3_ n4_ n5_ n6_ n7_ n8_; clear hb hbox hg; have hnb21 := NB566_558.out; have hnc21 := NB558_566.out; have hcz22_0 : w20.cell? ⟨gb566, 0, none⟩ = some (.int .i64 0) := (blk_cell BK566.out 0).trans rfl; have hcz22_1 : w20.cell? ⟨gb566, 1, none⟩ = some (.int .i64 0) := (blk_cell BK566.out 1).trans rfl; have hfz22_0 := blk_frozen BK566.out 0; have hfz22_1 := blk_frozen BK566.out 1))
   (try simp only [Act.put, List.setIfInBounds_toArray, List.set_cons_zero, List.set_cons_succ])
   go_cut [79] (fun v79 wc => ∃ (kq : Nat) (x79_9 : Bool), v79 = .bool x79_9 ∧ Aside0 (tipstafflaw14_LimitParts.j0 kq t550 t551 x79_9 = some r) ∧ Aside0 (kq ≤ k) ∧ Aside0 (Kd.R k38 38 wc w.heap.size (fun _ => True) (.slice Ao13 t551.length co13) t551) ∧ Aside0 (wc.heap[gb558]? = some (.cells #[.int .i64 t555, .int .i64 t556] 27 (0, 0))) ∧ Aside0 (wc.heap[gb566]? = some (.cells #[.int .i64 t563, .int .i64 t564] 27 (0, 0))) ∧ Aside0 (Below w.heap.size w wc))
   case first =>
    have H := HC10.out
    clear HC10
    by_cases c23 : t557 = 0
    ·rw [if_pos c23] at H
     have c23b0 : (t557 == 0) = true := beq_iff_eq.mpr c23
     have c23b1 : (t557 != 0) = false := bne_eq_false_iff_eq.mpr c23
     clear c23
     (first | rw [c23b0] | (simp only [i64_w, i32_w]; rw [c23b0]) | skip)
     by_cases c24 : t565 = 0
     ·rw [if_pos c24] at H
      have c24b0 : (t565 == 0) = true := beq_iff_eq.mpr c24
      have c24b1 : (t565 != 0) = false := bne_eq_false_iff_eq.mpr c24
      clear c24
      by_cases c25 : t555 > 0
      ·rw [if_pos c25] at H
       have c25b0 : decide (0 < t555) = true := decide_eq_true c25
       clear c25
       by_cases c26 : t556 < t554
       ·rw [if_pos c26] at H
        have c26b0 : decide (t556 < t554) = true := decide_eq_true c26
        clear c26
        by_cases c27 : (!(t563 == t555) || (!(t564 == t556))) = true
        ·rw [if_pos c27] at H
         have c27b0 : (!(t563 == t555) || (!(t564 == t556))) = true := c27
         clear c27
         have H' := Aside0.mk H
         clear H
         have hnb28 := NB558_566.out
         have hnc28 := NB566_558.out
         have hcz29_0 : w20.cell? ⟨gb558, 0, none⟩ = some (.int .i64 t555) := (blk_cell BK558.out 0).trans rfl
         have hcz29_1 : w20.cell? ⟨gb558, 1, none⟩ = some (.int .i64 t556) := (blk_cell BK558.out 1).trans rfl
         have hfz29_0 := blk_frozen BK558.out 0
         have hfz29_1 := blk_frozen BK558.out 1
         have hcz30_0 : w20.cell? ⟨gb566, 0, none⟩ = some (.int .i64 0) := (blk_cell BK566.out 0).trans rfl
         have hcz30_1 : w20.cell? ⟨gb566, 1, none⟩ = some (.int .i64 0) := (blk_cell BK566.out 1).trans rfl
         have hfz30_0 := blk_frozen BK566.out 0
         have hfz30_1 := blk_frozen BK566.out 1
         go_wp2
         go_meet
         case rel => exact ⟨_, (true), (by first | rfl | (simp; done) | (simp [*]; done)), H', ⟨by first | omega | exact Nat.le_refl _⟩, ⟨by (with_reducible repeat (first | apply Kd.R_alloc | apply Kd.R_drewN | apply Kd.R_drew)); exact Kd.R_mono (Kd.R_far (p := ⟨gb566, 1, none⟩) (Kd.R_far (p := ⟨gb566, 0, none⟩) (Kd.R_types HO553.out BK566.out (by decide)) (fun _ hk => hk.2) (.int .i64 t563)) (fun _ hk => hk.2) (.int .i64 t564)) (fun _ hk => trivial)⟩, ⟨by (with_reducible repeat (first | refine blk_drewN ?_ _ | refine blk_drew ?_ | refine blk_alloc ?_ _)); refine blk_far ?_ NB558_566.out _; (with_reducible repeat (first | refine blk_drewN ?_ _ | refine blk_drew ?_ | refine blk_alloc ?_ _)); refine blk_far ?_ NB558_566.out _; (with_reducible repeat (first | refine blk_drewN ?_ _ | refine blk_drew ?_ | refine blk_alloc ?_ _)); exact BK558.out⟩, ⟨by (with_reducible repeat (first | refine blk_drewN ?_ _ | refine blk_drew ?_ | refine blk_alloc ?_ _)); refine blk_put (cs := #[.int .i64 t563, .int .i64 0]) ?_ 1 _ rfl; (with_reducible repeat (first | refine blk_drewN ?_ _ | refine blk_drew ?_ | refine blk_alloc ?_ _)); refine blk_put (cs := #[.int .i64 0, .int .i64 0]) ?_ 0 _ rfl; (with_reducible repeat (first | refine blk_drewN ?_ _ | refine blk_drew ?_ | refine blk_alloc ?_ _)); exact BK566.out⟩, ⟨by repeat (first | (with_reducible first | exact HB.out | apply below_alloc | apply pw_below_drewN | apply below_drew1 | refine below_set ?_ GE558.out | refine below_set ?_ GE566.out) | exact HB.out)⟩⟩
        ·rw [if_neg c27] at H
         have c27b0 : (!(t563 == t555) || (!(t564 == t556))) = false := by simpa using c27
         clear c27
         by_cases c31 : t555 = 0
         ·rw [if_pos c31] at H
          have c31b0 : (t555 == 0) = true := beq_iff_eq.mpr c31
          have c31b1 : (t555 != 0) = false := bne_eq_false_iff_eq.mpr c31
          clear c31
          have H' := Aside0.mk H
          clear H
          have hnb32 := NB558_566.out
          have hnc32 := NB566_558.out
          have hcz33_0 : w20.cell? ⟨gb558, 0, none⟩ = some (.int .i64 t555) := (blk_cell BK558.out 0).trans rfl
          have hcz33_1 : w20.cell? ⟨gb558, 1, none⟩ = some (.int .i64 t556) := (blk_cell BK558.out 1).trans rfl
          have hfz33_0 := blk_frozen BK558.out 0
          have hfz33_1 := blk_frozen BK558.out 1
          have hcz34_0 : w20.cell? ⟨gb566, 0, none⟩ = some (.int .i64 0) := (blk_cell BK566.out 0).trans rfl
          have hcz34_1 : w20.cell? ⟨gb566, 1, none⟩ = some (.int .i64 0) := (blk_cell BK566.out 1).trans rfl
          have hfz34_0 := blk_frozen BK566.out 0
          have hfz34_1 := blk_frozen BK566.out 1
          go_wp2
          go_meet
          case rel => exact ⟨_, ((!(t563 == 0) || (!(t564 == 0)))), (by first | rfl | (simp; done) | (simp [*]; done)), H', ⟨by first | omega | exact Nat.le_refl _⟩, ⟨by (with_reducible repeat (first | apply Kd.R_alloc | apply Kd.R_drewN | apply Kd.R_drew)); exact Kd.R_mono (Kd.R_far (p := ⟨gb566, 1, none⟩) (Kd.R_far (p := ⟨gb566, 0, none⟩) (Kd.R_types HO553.out BK566.out (by decide)) (fun _ hk => hk.2) (.int .i64 t563)) (fun _ hk => hk.2) (.int .i64 t564)) (fun _ hk => trivial)⟩, ⟨by (with_reducible repeat (first | refine blk_drewN ?_ _ | refine blk_drew ?_ | refine blk_alloc ?_ _)); refine blk_far ?_ NB558_566.out _; (with_reducible repeat (first | refine blk_drewN ?_ _ | refine blk_drew ?_ | refine blk_alloc ?_ _)); refine blk_far ?_ NB558_566.out _; (with_reducible repeat (first | refine blk_drewN ?_ _ | refine blk_drew ?_ | refine blk_alloc ?_ _)); exact BK558.out⟩, ⟨by (with_reducible repeat (first | refine blk_drewN ?_ _ | refine blk_drew ?_ | refine blk_alloc ?_ _)); refine blk_put (cs := #[.int .i64 t563, .int .i64 0]) ?_ 1 _ rfl; (with_reducible repeat (first | refine blk_drewN ?_ _ | refine blk_drew ?_ | refine blk_alloc ?_ _)); refine blk_put (cs := #[.int .i64 0, .int .i64 0]) ?_ 0 _ rfl; (with_reducible repeat (first | refine blk_drewN ?_ _ | refine blk_drew ?_ | refine blk_alloc ?_ _)); exact BK566.out⟩, ⟨by repeat (first | (with_reducible first | exact HB.out | apply below_alloc | apply pw_below_drewN | apply below_drew1 | refine below_set ?_ GE558.out | refine below_set ?_ GE566.out) | exact HB.out)⟩⟩
         ·rw [if_neg c31] at H
          have c31b0 : (t555 == 0) = false := beq_eq_false_iff_ne.mpr c31
          have c31b1 : (t555 != 0) = true := bne_iff_ne.mpr c31
          by_cases c35 : t556 ≥ t554
          ·rw [if_pos c35] at H
           have c35b0 : decide (t554 ≤ t556) = true := decide_eq_true c35
           clear c35
           have H' := Aside0.mk H
           clear H
           have hnb36 := NB558_566.out
           have hnc36 := NB566_558.out
           have hcz37_0 : w20.cell? ⟨gb558, 0, none⟩ = some (.int .i64 t555) := (blk_cell BK558.out 0).trans rfl
           have hcz37_1 : w20.cell? ⟨gb558, 1, none⟩ = some (.int .i64 t556) := (blk_cell BK558.out 1).trans rfl
           have hfz37_0 := blk_frozen BK558.out 0
           have hfz37_1 := blk_frozen BK558.out 1
           have hcz38_0 : w20.cell? ⟨gb566, 0, none⟩ = some (.int .i64 0) := (blk_cell BK566.out 0).trans rfl
           have hcz38_1 : w20.cell? ⟨gb566, 1, none⟩ = some (.int .i64 0) := (blk_cell BK566.out 1).trans rfl
           have hfz38_0 := blk_frozen BK566.out 0
           have hfz38_1 := blk_frozen BK566.out 1
           go_wp2
           go_meet
           case rel => exact ⟨_, ((!(t563 == 0) || (!(t564 == 0)))), (by first | rfl | (simp; done) | (simp [*]; done)), H', ⟨by first | omega | exact Nat.le_refl _⟩, ⟨by (with_reducible repeat (first | apply Kd.R_alloc | apply Kd.R_drewN | apply Kd.R_drew)); exact Kd.R_mono (Kd.R_far (p := ⟨gb566, 1, none⟩) (Kd.R_far (p := ⟨gb566, 0, none⟩) (Kd.R_types HO553.out BK566.out (by decide)) (fun _ hk => hk.2) (.int .i64 t563)) (fun _ hk => hk.2) (.int .i64 t564)) (fun _ hk => trivial)⟩, ⟨by (with_reducible repeat (first | refine blk_drewN ?_ _ | refine blk_drew ?_ | refine blk_alloc ?_ _)); refine blk_far ?_ NB558_566.out _; (with_reducible repeat (first | refine blk_drewN ?_ _ | refine blk_drew ?_ | refine blk_alloc ?_ _)); refine blk_far ?_ NB558_566.out _; (with_reducible repeat (first | refine blk_drewN ?_ _ | refine blk_drew ?_ | refine blk_alloc ?_ _)); exact BK558.out⟩, ⟨by (with_reducible repeat (first | refine blk_drewN ?_ _ | refine blk_drew ?_ | refine blk_alloc ?_ _)); refine blk_put (cs := #[.int .i64 t563, .int .i64 0]) ?_ 1 _ rfl; (with_reducible repeat (first | refine blk_drewN ?_ _ | refine blk_drew ?_ | refine blk_alloc ?_ _)); refine blk_put (cs := #[.int .i64 0, .int .i64 0]) ?_ 0 _ rfl; (with_reducible repeat (first | refine blk_drewN ?_ _ | refine blk_drew ?_ | refine blk_alloc ?_ _)); exact BK566.out⟩, ⟨by repeat (first | (with_reducible first | exact HB.out | apply below_alloc | apply pw_below_drewN | apply below_drew1 | refine below_set ?_ GE558.out | refine below_set ?_ GE566.out) | exact HB.out)⟩⟩
          ·rw [if_neg c35] at H
           have c35b0 : decide (t554 ≤ t556) = false := decide_eq_false c35
           clear c35
           have H' := Aside0.mk H
           clear H
           have hnb39 := NB558_566.out
           have hnc39 := NB566_558.out
           have hcz40_0 : w20.cell? ⟨gb558, 0, none⟩ = some (.int .i64 t555) := (blk_cell BK558.out 0).trans rfl
           have hcz40_1 : w20.cell? ⟨gb558, 1, none⟩ = some (.int .i64 t556) := (blk_cell BK558.out 1).trans rfl
           have hfz40_0 := blk_frozen BK558.out 0
           have hfz40_1 := blk_frozen BK558.out 1
           have hcz41_0 : w20.cell? ⟨gb566, 0, none⟩ = some (.int .i64 0) := (blk_cell BK566.out 0).trans rfl
           have hcz41_1 : w20.cell? ⟨gb566, 1, none⟩ = some (.int .i64 0) := (blk_cell BK566.out 1).trans rfl
           have hfz41_0 := blk_frozen BK566.out 0
           have hfz41_1 := blk_frozen BK566.out 1
           go_wp2
           go_meet
           case rel => exact ⟨_, (false), (by first | rfl | (simp; done) | (simp [*]; done)), H', ⟨by first | omega | exact Nat.le_refl _⟩, ⟨by (with_reducible repeat (first | apply Kd.R_alloc | apply Kd.R_drewN | apply Kd.R_drew)); exact Kd.R_mono (Kd.R_far (p := ⟨gb566, 1, none⟩) (Kd.R_far (p := ⟨gb566, 0, none⟩) (Kd.R_types HO553.out BK566.out (by decide)) (fun _ hk => hk.2) (.int .i64 t563)) (fun _ hk => hk.2) (.int .i64 t564)) (fun _ hk => trivial)⟩, ⟨by (with_reducible repeat (first | refine blk_drewN ?_ _ | refine blk_drew ?_ | refine blk_alloc ?_ _)); refine blk_far ?_ NB558_566.out _; (with_reducible repeat (first | refine blk_drewN ?_ _ | refine blk_drew ?_ | refine blk_alloc ?_ _)); refine blk_far ?_ NB558_566.out _; (with_reducible repeat (first | refine blk_drewN ?_ _ | refine blk_drew ?_ | refine blk_alloc ?_ _)); exact BK558.out⟩, ⟨by (with_reducible repeat (first | refine blk_drewN ?_ _ | refine blk_drew ?_ | refine blk_alloc ?_ _)); refine blk_put (cs := #[.int .i64 t563, .int .i64 0]) ?_ 1 _ rfl; (with_reducible repeat (first | refine blk_drewN ?_ _ | refine blk_drew ?_ | refine blk_alloc ?_ _)); refine blk_put (cs := #[.int .i64 0, .int .i64 0]) ?_ 0 _ rfl; (with_reducible repeat (first | refine blk_drewN ?_ _ | refine blk_drew ?_ | refine blk_alloc ?_ _)); exact BK566.out⟩, ⟨by repeat (first | (with_reducible first | exact HB.out | apply below_alloc | apply pw_below_drewN | apply below_drew1 | refine below_set ?_ GE558.out | refine below_set ?_ GE566.out) | exact HB.out)⟩⟩
       ·rw [if_neg c26] at H
        have c26b0 : decide (t556 < t554) = false := decide_eq_false c26
        clear c26
        by_cases c42 : t555 = 0
        ·rw [if_pos c42] at H
         have c42b0 : (t555 == 0) = true := beq_iff_eq.mpr c42
         have c42b1 : (t555 != 0) = false := bne_eq_false_iff_eq.mpr c42
         clear c42
         have H' := Aside0.mk H
         clear H
         have hnb43 := NB558_566.out
         have hnc43 := NB566_558.out
         have hcz44_0 : w20.cell? ⟨gb558, 0, none⟩ = some (.int .i64 t555) := (blk_cell BK558.out 0).trans rfl
         have hcz44_1 : w20.cell? ⟨gb558, 1, none⟩ = some (.int .i64 t556) := (blk_cell BK558.out 1).trans rfl
         have hfz44_0 := blk_frozen BK558.out 0
         have hfz44_1 := blk_frozen BK558.out 1
         have hcz45_0 : w20.cell? ⟨gb566, 0, none⟩ = some (.int .i64 0) := (blk_cell BK566.out 0).trans rfl
         have hcz45_1 : w20.cell? ⟨gb566, 1, none⟩ = some (.int .i64 0) := (blk_cell BK566.out 1).trans rfl
         have hfz45_0 := blk_frozen BK566.out 0
         have hfz45_1 := blk_frozen BK566.out 1
         go_wp2
         go_meet
         case rel => exact ⟨_, ((!(t563 == 0) || (!(t564 == 0)))), (by first | rfl | (simp; done) | (simp [*]; done)), H', ⟨by first | omega | exact Nat.le_refl _⟩, ⟨by (with_reducible repeat (first | apply Kd.R_alloc | apply Kd.R_drewN | apply Kd.R_drew)); exact Kd.R_mono (Kd.R_far (p := ⟨gb566, 1, none⟩) (Kd.R_far (p := ⟨gb566, 0, none⟩) (Kd.R_types HO553.out BK566.out (by decide)) (fun _ hk => hk.2) (.int .i64 t563)) (fun _ hk => hk.2) (.int .i64 t564)) (fun _ hk => trivial)⟩, ⟨by (with_reducible repeat (first | refine blk_drewN ?_ _ | refine blk_drew ?_ | refine blk_alloc ?_ _)); refine blk_far ?_ NB558_566.out _; (with_reducible repeat (first | refine blk_drewN ?_ _ | refine blk_drew ?_ | refine blk_alloc ?_ _)); refine blk_far ?_ NB558_566.out _; (with_reducible repeat (first | refine blk_drewN ?_ _ | refine blk_drew ?_ | refine blk_alloc ?_ _)); exact BK558.out⟩, ⟨by (with_reducible repeat (first | refine blk_drewN ?_ _ | refine blk_drew ?_ | refine blk_alloc ?_ _)); refine blk_put (cs := #[.int .i64 t563, .int .i64 0]) ?_ 1 _ rfl; (with_reducible repeat (first | refine blk_drewN ?_ _ | refine blk_drew ?_ | refine blk_alloc ?_ _)); refine blk_put (cs := #[.int .i64 0, .int .i64 0]) ?_ 0 _ rfl; (with_reducible repeat (first | refine blk_drewN ?_ _ | refine blk_drew ?_ | refine blk_alloc ?_ _)); exact BK566.out⟩, ⟨by repeat (first | (with_reducible first | exact HB.out | apply below_alloc | apply pw_below_drewN | apply below_drew1 | refine below_set ?_ GE558.out | refine below_set ?_ GE566.out) | exact HB.out)⟩⟩
        ·rw [if_neg c42] at H
         have c42b0 : (t555 == 0) = false := beq_eq_false_iff_ne.mpr c42
         have c42b1 : (t555 != 0) = true := bne_iff_ne.mpr c42
         by_cases c46 : t556 ≥ t554
         ·rw [if_pos c46] at H
          have c46b0 : decide (t554 ≤ t556) = true := decide_eq_true c46
          clear c46
          have H' := Aside0.mk H
          clear H
          have hnb47 := NB558_566.out
          have hnc47 := NB566_558.out
          have hcz48_0 : w20.cell? ⟨gb558, 0, none⟩ = some (.int .i64 t555) := (blk_cell BK558.out 0).trans rfl
          have hcz48_1 : w20.cell? ⟨gb558, 1, none⟩ = some (.int .i64 t556) := (blk_cell BK558.out 1).trans rfl
          have hfz48_0 := blk_frozen BK558.out 0
          have hfz48_1 := blk_frozen BK558.out 1
          have hcz49_0 : w20.cell? ⟨gb566, 0, none⟩ = some (.int .i64 0) := (blk_cell BK566.out 0).trans rfl
          have hcz49_1 : w20.cell? ⟨gb566, 1, none⟩ = some (.int .i64 0) := (blk_cell BK566.out 1).trans rfl
          have hfz49_0 := blk_frozen BK566.out 0
          have hfz49_1 := blk_frozen BK566.out 1
          go_wp2
          go_meet
          case rel => exact ⟨_, ((!(t563 == 0) || (!(t564 == 0)))), (by first | rfl | (simp; done) | (simp [*]; done)), H', ⟨by first | omega | exact Nat.le_refl _⟩, ⟨by (with_reducible repeat (first | apply Kd.R_alloc | apply Kd.R_drewN | apply Kd.R_drew)); exact Kd.R_mono (Kd.R_far (p := ⟨gb566, 1, none⟩) (Kd.R_far (p := ⟨gb566, 0, none⟩) (Kd.R_types HO553.out BK566.out (by decide)) (fun _ hk => hk.2) (.int .i64 t563)) (fun _ hk => hk.2) (.int .i64 t564)) (fun _ hk => trivial)⟩, ⟨by (with_reducible repeat (first | refine blk_drewN ?_ _ | refine blk_drew ?_ | refine blk_alloc ?_ _)); refine blk_far ?_ NB558_566.out _; (with_reducible repeat (first | refine blk_drewN ?_ _ | refine blk_drew ?_ | refine blk_alloc ?_ _)); refine blk_far ?_ NB558_566.out _; (with_reducible repeat (first | refine blk_drewN ?_ _ | refine blk_drew ?_ | refine blk_alloc ?_ _)); exact BK558.out⟩, ⟨by (with_reducible repeat (first | refine blk_drewN ?_ _ | refine blk_drew ?_ | refine blk_alloc ?_ _)); refine blk_put (cs := #[.int .i64 t563, .int .i64 0]) ?_ 1 _ rfl; (with_reducible repeat (first | refine blk_drewN ?_ _ | refine blk_drew ?_ | refine blk_alloc ?_ _)); refine blk_put (cs := #[.int .i64 0, .int .i64 0]) ?_ 0 _ rfl; (with_reducible repeat (first | refine blk_drewN ?_ _ | refine blk_drew ?_ | refine blk_alloc ?_ _)); exact BK566.out⟩, ⟨by repeat (first | (with_reducible first | exact HB.out | apply below_alloc | apply pw_below_drewN | apply below_drew1 | refine below_set ?_ GE558.out | refine below_set ?_ GE566.out) | exact HB.out)⟩⟩
         ·rw [if_neg c46] at H
          have c46b0 : decide (t554 ≤ t556) = false := decide_eq_false c46
          clear c46
          have H' := Aside0.mk H
          clear H
          have hnb50 := NB558_566.out
          have hnc50 := NB566_558.out
          have hcz51_0 : w20.cell? ⟨gb558, 0, none⟩ = some (.int .i64 t555) := (blk_cell BK558.out 0).trans rfl
          have hcz51_1 : w20.cell? ⟨gb558, 1, none⟩ = some (.int .i64 t556) := (blk_cell BK558.out 1).trans rfl
          have hfz51_0 := blk_frozen BK558.out 0
          have hfz51_1 := blk_frozen BK558.out 1
          go_wp2
          go_meet
          case rel => exact ⟨_, (false), (by first | rfl | (simp; done) | (simp [*]; done)), H', ⟨by first | omega | exact Nat.le_refl _⟩, ⟨by (with_reducible repeat (first | apply Kd.R_alloc | apply Kd.R_drewN | apply Kd.R_drew)); exact Kd.R_mono (Kd.R_far (p := ⟨gb566, 1, none⟩) (Kd.R_far (p := ⟨gb566, 0, none⟩) (Kd.R_types HO553.out BK566.out (by decide)) (fun _ hk => hk.2) (.int .i64 t563)) (fun _ hk => hk.2) (.int .i64 t564)) (fun _ hk => trivial)⟩, ⟨by (with_reducible repeat (first | refine blk_drewN ?_ _ | refine blk_drew ?_ | refine blk_alloc ?_ _)); refine blk_far ?_ NB558_566.out _; (with_reducible repeat (first | refine blk_drewN ?_ _ | refine blk_drew ?_ | refine blk_alloc ?_ _)); refine blk_far ?_ NB558_566.out _; (with_reducible repeat (first | refine blk_drewN ?_ _ | refine blk_drew ?_ | refine blk_alloc ?_ _)); exact BK558.out⟩, ⟨by (with_reducible repeat (first | refine blk_drewN ?_ _ | refine blk_drew ?_ | refine blk_alloc ?_ _)); refine blk_put (cs := #[.int .i64 t563, .int .i64 0]) ?_ 1 _ rfl; (with_reducible repeat (first | refine blk_drewN ?_ _ | refine blk_drew ?_ | refine blk_alloc ?_ _)); refine blk_put (cs := #[.int .i64 0, .int .i64 0]) ?_ 0 _ rfl; (with_reducible repeat (first | refine blk_drewN ?_ _ | refine blk_drew ?_ | refine blk_alloc ?_ _)); exact BK566.out⟩, ⟨by repeat (first | (with_reducible first | exact HB.out | apply below_alloc | apply pw_below_drewN | apply below_drew1 | refine below_set ?_ GE558.out | refine below_set ?_ GE566.out) | exact HB.out)⟩⟩
      ·rw [if_neg c25] at H
       have c25b0 : decide (0 < t555) = false := decide_eq_false c25
       clear c25
       by_cases c52 : t555 = 0
       ·rw [if_pos c52] at H
        have c52b0 : (t555 == 0) = true := beq_iff_eq.mpr c52
        have c52b1 : (t555 != 0) = false := bne_eq_false_iff_eq.mpr c52
        clear c52
        have H' := Aside0.mk H
        clear H
        have hnb53 := NB558_566.out
        have hnc53 := NB566_558.out
        have hcz54_0 : w20.cell? ⟨gb558, 0, none⟩ = some (.int .i64 t555) := (blk_cell BK558.out 0).trans rfl
        have hcz54_1 : w20.cell? ⟨gb558, 1, none⟩ = some (.int .i64 t556) := (blk_cell BK558.out 1).trans rfl
        have hfz54_0 := blk_frozen BK558.out 0
        have hfz54_1 := blk_frozen BK558.out 1
        have hcz55_0 : w20.cell? ⟨gb566, 0, none⟩ = some (.int .i64 0) := (blk_cell BK566.out 0).trans rfl
        have hcz55_1 : w20.cell? ⟨gb566, 1, none⟩ = some (.int .i64 0) := (blk_cell BK566.out 1).trans rfl
        have hfz55_0 := blk_frozen BK566.out 0
        have hfz55_1 := blk_frozen BK566.out 1
        go_wp2
        go_meet
        case rel => exact ⟨_, ((!(t563 == 0) || (!(t564 == 0)))), (by first | rfl | (simp; done) | (simp [*]; done)), H', ⟨by first | omega | exact Nat.le_refl _⟩, ⟨by (with_reducible repeat (first | apply Kd.R_alloc | apply Kd.R_drewN | apply Kd.R_drew)); exact Kd.R_mono (Kd.R_far (p := ⟨gb566, 1, none⟩) (Kd.R_far (p := ⟨gb566, 0, none⟩) (Kd.R_types HO553.out BK566.out (by decide)) (fun _ hk => hk.2) (.int .i64 t563)) (fun _ hk => hk.2) (.int .i64 t564)) (fun _ hk => trivial)⟩, ⟨by (with_reducible repeat (first | refine blk_drewN ?_ _ | refine blk_drew ?_ | refine blk_alloc ?_ _)); refine blk_far ?_ NB558_566.out _; (with_reducible repeat (first | refine blk_drewN ?_ _ | refine blk_drew ?_ | refine blk_alloc ?_ _)); refine blk_far ?_ NB558_566.out _; (with_reducible repeat (first | refine blk_drewN ?_ _ | refine blk_drew ?_ | refine blk_alloc ?_ _)); exact BK558.out⟩, ⟨by (with_reducible repeat (first | refine blk_drewN ?_ _ | refine blk_drew ?_ | refine blk_alloc ?_ _)); refine blk_put (cs := #[.int .i64 t563, .int .i64 0]) ?_ 1 _ rfl; (with_reducible repeat (first | refine blk_drewN ?_ _ | refine blk_drew ?_ | refine blk_alloc ?_ _)); refine blk_put (cs := #[.int .i64 0, .int .i64 0]) ?_ 0 _ rfl; (with_reducible repeat (first | refine blk_drewN ?_ _ | refine blk_drew ?_ | refine blk_alloc ?_ _)); exact BK566.out⟩, ⟨by repeat (first | (with_reducible first | exact HB.out | apply below_alloc | apply pw_below_drewN | apply below_drew1 | refine below_set ?_ GE558.out | refine below_set ?_ GE566.out) | exact HB.out)⟩⟩
       ·rw [if_neg c52] at H
        have c52b0 : (t555 == 0) = false := beq_eq_false_iff_ne.mpr c52
        have c52b1 : (t555 != 0) = true := bne_iff_ne.mpr c52
        by_cases c56 : t556 ≥ t554
        ·rw [if_pos c56] at H
         have c56b0 : decide (t554 ≤ t556) = true := decide_eq_true c56
         clear c56
         have H' := Aside0.mk H
         clear H
         have hnb57 := NB558_566.out
         have hnc57 := NB566_558.out
         have hcz58_0 : w20.cell? ⟨gb558, 0, none⟩ = some (.int .i64 t555) := (blk_cell BK558.out 0).trans rfl
         have hcz58_1 : w20.cell? ⟨gb558, 1, none⟩ = some (.int .i64 t556) := (blk_cell BK558.out 1).trans rfl
         have hfz58_0 := blk_frozen BK558.out 0
         have hfz58_1 := blk_frozen BK558.out 1
         have hcz59_0 : w20.cell? ⟨gb566, 0, none⟩ = some (.int .i64 0) := (blk_cell BK566.out 0).trans rfl
         have hcz59_1 : w20.cell? ⟨gb566, 1, none⟩ = some (.int .i64 0) := (blk_cell BK566.out 1).trans rfl
         have hfz59_0 := blk_frozen BK566.out 0
         have hfz59_1 := blk_frozen BK566.out 1
         go_wp2
         go_meet
         case rel => exact ⟨_, ((!(t563 == 0) || (!(t564 == 0)))), (by first | rfl | (simp; done) | (simp [*]; done)), H', ⟨by first | omega | exact Nat.le_refl _⟩, ⟨by (with_reducible repeat (first | apply Kd.R_alloc | apply Kd.R_drewN | apply Kd.R_drew)); exact Kd.R_mono (Kd.R_far (p := ⟨gb566, 1, none⟩) (Kd.R_far (p := ⟨gb566, 0, none⟩) (Kd.R_types HO553.out BK566.out (by decide)) (fun _ hk => hk.2) (.int .i64 t563)) (fun _ hk => hk.2) (.int .i64 t564)) (fun _ hk => trivial)⟩, ⟨by (with_reducible repeat (first | refine blk_drewN ?_ _ | refine blk_drew ?_ | refine blk_alloc ?_ _)); refine blk_far ?_ NB558_566.out _; (with_reducible repeat (first | refine blk_drewN ?_ _ | refine blk_drew ?_ | refine blk_alloc ?_ _)); refine blk_far ?_ NB558_566.out _; (with_reducible repeat (first | refine blk_drewN ?_ _ | refine blk_drew ?_ | refine blk_alloc ?_ _)); exact BK558.out⟩, ⟨by (with_reducible repeat (first | refine blk_drewN ?_ _ | refine blk_drew ?_ | refine blk_alloc ?_ _)); refine blk_put (cs := #[.int .i64 t563, .int .i64 0]) ?_ 1 _ rfl; (with_reducible repeat (first | refine blk_drewN ?_ _ | refine blk_drew ?_ | refine blk_alloc ?_ _)); refine blk_put (cs := #[.int .i64 0, .int .i64 0]) ?_ 0 _ rfl; (with_reducible repeat (first | refine blk_drewN ?_ _ | refine blk_drew ?_ | refine blk_alloc ?_ _)); exact BK566.out⟩, ⟨by repeat (first | (with_reducible first | exact HB.out | apply below_alloc | apply pw_below_drewN | apply below_drew1 | refine below_set ?_ GE558.out | refine below_set ?_ GE566.out) | exact HB.out)⟩⟩
        ·rw [if_neg c56] at H
         have c56b0 : decide (t554 ≤ t556) = false := decide_eq_false c56
         clear c56
         have H' := Aside0.mk H
         clear H
         have hnb60 := NB558_566.out
         have hnc60 := NB566_558.out
         have hcz61_0 : w20.cell? ⟨gb558, 0, none⟩ = some (.int .i64 t555) := (blk_cell BK558.out 0).trans rfl
         have hcz61_1 : w20.cell? ⟨gb558, 1, none⟩ = some (.int .i64 t556) := (blk_cell BK558.out 1).trans rfl
         have hfz61_0 := blk_frozen BK558.out 0
         have hfz61_1 := blk_frozen BK558.out 1
         go_wp2
         go_meet
         case rel => exact ⟨_, (false), (by first | rfl | (simp; done) | (simp [*]; done)), H', ⟨by first | omega | exact Nat.le_refl _⟩, ⟨by (with_reducible repeat (first | apply Kd.R_alloc | apply Kd.R_drewN | apply Kd.R_drew)); exact Kd.R_mono (Kd.R_far (p := ⟨gb566, 1, none⟩) (Kd.R_far (p := ⟨gb566, 0, none⟩) (Kd.R_types HO553.out BK566.out (by decide)) (fun _ hk => hk.2) (.int .i64 t563)) (fun _ hk => hk.2) (.int .i64 t564)) (fun _ hk => trivial)⟩, ⟨by (with_reducible repeat (first | refine blk_drewN ?_ _ | refine blk_drew ?_ | refine blk_alloc ?_ _)); refine blk_far ?_ NB558_566.out _; (with_reducible repeat (first | refine blk_drewN ?_ _ | refine blk_drew ?_ | refine blk_alloc ?_ _)); refine blk_far ?_ NB558_566.out _; (with_reducible repeat (first | refine blk_drewN ?_ _ | refine blk_drew ?_ | refine blk_alloc ?_ _)); exact BK558.out⟩, ⟨by (with_reducible repeat (first | refine blk_drewN ?_ _ | refine blk_drew ?_ | refine blk_alloc ?_ _)); refine blk_put (cs := #[.int .i64 t563, .int .i64 0]) ?_ 1 _ rfl; (with_reducible repeat (first | refine blk_drewN ?_ _ | refine blk_drew ?_ | refine blk_alloc ?_ _)); refine blk_put (cs := #[.int .i64 0, .int .i64 0]) ?_ 0 _ rfl; (with_reducible repeat (first | refine blk_drewN ?_ _ | refine blk_drew ?_ | refine blk_alloc ?_ _)); exact BK566.out⟩, ⟨by repeat (first | (with_reducible first | exact HB.out | apply below_alloc | apply pw_below_drewN | apply below_drew1 | refine below_set ?_ GE558.out | refine below_set ?_ GE566.out) | exact HB.out)⟩⟩
     ·rw [if_neg c24] at H
      have c24b0 : (t565 == 0) = false := beq_eq_false_iff_ne.mpr c24
      have c24b1 : (t565 != 0) = true := bne_iff_ne.mpr c24
      have H' := Aside0.mk H
      clear H
      go_wp2
      go_meet
      case rel => exact ⟨_, (true), (by first | rfl | (simp; done) | (simp [*]; done)), H', ⟨by first | omega | exact Nat.le_refl _⟩, ⟨by (with_reducible repeat (first | apply Kd.R_alloc | apply Kd.R_drewN | apply Kd.R_drew)); exact Kd.R_mono (Kd.R_far (p := ⟨gb566, 1, none⟩) (Kd.R_far (p := ⟨gb566, 0, none⟩) (Kd.R_types HO553.out BK566.out (by decide)) (fun _ hk => hk.2) (.int .i64 t563)) (fun _ hk => hk.2) (.int .i64 t564)) (fun _ hk => trivial)⟩, ⟨by (with_reducible repeat (first | refine blk_drewN ?_ _ | refine blk_drew ?_ | refine blk_alloc ?_ _)); refine blk_far ?_ NB558_566.out _; (with_reducible repeat (first | refine blk_drewN ?_ _ | refine blk_drew ?_ | refine blk_alloc ?_ _)); refine blk_far ?_ NB558_566.out _; (with_reducible repeat (first | refine blk_drewN ?_ _ | refine blk_drew ?_ | refine blk_alloc ?_ _)); exact BK558.out⟩, ⟨by (with_reducible repeat (first | refine blk_drewN ?_ _ | refine blk_drew ?_ | refine blk_alloc ?_ _)); refine blk_put (cs := #[.int .i64 t563, .int .i64 0]) ?_ 1 _ rfl; (with_reducible repeat (first | refine blk_drewN ?_ _ | refine blk_drew ?_ | refine blk_alloc ?_ _)); refine blk_put (cs := #[.int .i64 0, .int .i64 0]) ?_ 0 _ rfl; (with_reducible repeat (first | refine blk_drewN ?_ _ | refine blk_drew ?_ | refine blk_alloc ?_ _)); exact BK566.out⟩, ⟨by repeat (first | (with_reducible first | exact HB.out | apply below_alloc | apply pw_below_drewN | apply below_drew1 | refine below_set ?_ GE558.out | refine below_set ?_ GE566.out) | exact HB.out)⟩⟩
    ·rw [if_neg c23] at H
     have c23b0 : (t557 == 0) = false := beq_eq_false_iff_ne.mpr c23
     have c23b1 : (t557 != 0) = true := bne_iff_ne.mpr c23
     (first | rw [c23b0] | (simp only [i64_w, i32_w]; rw [c23b0]) | skip)
     have H' := Aside0.mk H
     clear H
     go_wp2
     go_meet
     case rel => exact ⟨_, (true), (by first | rfl | (simp; done) | (simp [*]; done)), H', ⟨by first | omega | exact Nat.le_refl _⟩, ⟨by (with_reducible repeat (first | apply Kd.R_alloc | apply Kd.R_drewN | apply Kd.R_drew)); exact Kd.R_mono (Kd.R_far (p := ⟨gb566, 1, none⟩) (Kd.R_far (p := ⟨gb566, 0, none⟩) (Kd.R_types HO553.out BK566.out (by decide)) (fun _ hk => hk.2) (.int .i64 t563)) (fun _ hk => hk.2) (.int .i64 t564)) (fun _ hk => trivial)⟩, ⟨by (with_reducible repeat (first | refine blk_drewN ?_ _ | refine blk_drew ?_ | refine blk_alloc ?_ _)); refine blk_far ?_ NB558_566.out _; (with_reducible repeat (first | refine blk_drewN ?_ _ | refine blk_drew ?_ | refine blk_alloc ?_ _)); refine blk_far ?_ NB558_566.out _; (with_reducible repeat (first | refine blk_drewN ?_ _ | refine blk_drew ?_ | refine blk_alloc ?_ _)); exact BK558.out⟩, ⟨by (with_reducible repeat (first | refine blk_drewN ?_ _ | refine blk_drew ?_ | refine blk_alloc ?_ _)); refine blk_put (cs := #[.int .i64 t563, .int .i64 0]) ?_ 1 _ rfl; (with_reducible repeat (first | refine blk_drewN ?_ _ | refine blk_drew ?_ | refine blk_alloc ?_ _)); refine blk_put (cs := #[.int .i64 0, .int .i64 0]) ?_ 0 _ rfl; (with_reducible repeat (first | refine blk_drewN ?_ _ | refine blk_drew ?_ | refine blk_alloc ?_ _)); exact BK566.out⟩, ⟨by repeat (first | (with_reducible first | exact HB.out | apply below_alloc | apply pw_below_drewN | apply below_drew1 | refine below_set ?_ GE558.out | refine below_set ?_ GE566.out) | exact HB.out)⟩⟩
   case rest =>
    clear HC10
    try clear c1
    try clear q1
    try clear c2
    try clear p2
    try clear c3
    try clear c4
    try clear c5
    try clear c6
    try clear p6
    try clear c7
    try clear c7b0
    try clear c7b1
    try clear c8
    try clear c8b0
    try clear c8b1
    try clear c9
    try clear c13
    try clear q18
    try clear c21
    try clear c23
    try clear c23b0
    try clear c23b1
    try clear c24
    try clear c24b0
    try clear c24b1
    try clear c25
    try clear c25b0
    try clear c26
    try clear c26b0
    try clear c27
    try clear c27b0
    try clear c28
    try clear c31
    try clear c31b0
    try clear c31b1
    try clear c32
    try clear c35
    try clear c35b0
    try clear c36
    try clear c39
    try clear c42
    try clear c42b0
    try clear c42b1
    try clear c43
    try clear c46
    try clear c46b0
    try clear c47
    try clear c50
    try clear c52
    try clear c52b0
    try clear c52b1
    try clear c53
    try clear c56
    try clear c56b0
    try clear c57
    try clear c60
    try clear hcz16_0
    try clear hcz16_1
    try clear hcz22_0
    try clear hcz22_1
    try clear hcz29_0
    try clear hcz29_1
    try clear hcz30_0
    try clear hcz30_1
    try clear hcz33_0
    try clear hcz33_1
    try clear hcz34_0
    try clear hcz34_1
    try clear hcz37_0
    try clear hcz37_1
    try clear hcz38_0
    try clear hcz38_1
    try clear hcz40_0
    try clear hcz40_1
    try clear hcz41_0
    try clear hcz41_1
    try clear hcz44_0
    try clear hcz44_1
    try clear hcz45_0
    try clear hcz45_1
    try clear hcz48_0
    try clear hcz48_1
    try clear hcz49_0
    try clear hcz49_1
    try clear hcz51_0
    try clear hcz51_1
    try clear hcz54_0
    try clear hcz54_1
    try clear hcz55_0
    try clear hcz55_1
    try clear hcz58_0
    try clear hcz58_1
    try clear hcz59_0
    try clear hcz59_1
    try clear hcz61_0
    try clear hcz61_1
    try clear hfz16_0
    try clear hfz16_1
    try clear hfz22_0
    try clear hfz22_1
    try clear hfz29_0
    try clear hfz29_1
    try clear hfz30_0
    try clear hfz30_1
    try clear hfz33_0
    try clear hfz33_1
    try clear hfz34_0
    try clear hfz34_1
    try clear hfz37_0
    try clear hfz37_1
    try clear hfz38_0
    try clear hfz38_1
    try clear hfz40_0
    try clear hfz40_1
    try clear hfz41_0
    try clear hfz41_1
    try clear hfz44_0
    try clear hfz44_1
    try clear hfz45_0
    try clear hfz45_1
    try clear hfz48_0
    try clear hfz48_1
    try clear hfz49_0
    try clear hfz49_1
    try clear hfz51_0
    try clear hfz51_1
    try clear hfz54_0
    try clear hfz54_1
    try clear hfz55_0
    try clear hfz55_1
    try clear hfz58_0
    try clear hfz58_1
    try clear hfz59_0
    try clear hfz59_1
    try clear hfz61_0
    try clear hfz61_1
    try clear q18
    obtain ⟨kq, x79_9, rfl, HA, HJ9, HO_6, BK558, BK566, HB⟩ := hcut
    cases kq with
    | zero => exact absurd HA.out (by simp [tipstafflaw14_LimitParts.j0])
    | succ kj9 =>
     have H := HA.out
     clear HA
     simp only [tipstafflaw14_LimitParts.j0] at H
     by_cases c62 : x79_9 = true
     ·subst c62
      have H1 : (none) = some r := by rw [if_pos rfl] at H; exact H
      clear H
      have H := H1
      clear H1
      exact absurd H (by simp)
     ·replace c62 := Bool.eq_false_iff.mpr c62
      subst c62
      have H1 : ((limit_Jumps.f kj9 t551).bind fun bt567 => ((limit_Stops.f kj9 t551).bind fun bt571 => (if bt567.2 = 0 then (tipstafflaw14_LimitParts.j1 kj9 t550 t551 bt567.1 bt571.1 (bt571.2 != 0)) else (tipstafflaw14_LimitParts.j1 kj9 t550 t551 bt567.1 bt571.1 true)))) = some r := by rw [if_neg (show ¬ (false = true) by decide)] at H; exact H
      clear H
      have H := H1
      clear H1
      replace H := Option.bind_eq_some_iff.mp H
      obtain ⟨⟨t567, t570⟩, A630, H⟩ := H
      replace H : ((limit_Stops.f kj9 t551).bind fun bt571 => (if t570 = 0 then (tipstafflaw14_LimitParts.j1 kj9 t550 t551 t567 bt571.1 (bt571.2 != 0)) else (tipstafflaw14_LimitParts.j1 kj9 t550 t551 t567 bt571.1 true))) = some r := H
      have A63 := Aside0.mk A630
      clear A630
      replace H := Option.bind_eq_some_iff.mp H
      obtain ⟨⟨t571, t574⟩, A640, H⟩ := H
      replace H : (if t570 = 0 then (tipstafflaw14_LimitParts.j1 kj9 t550 t551 t567 t571 (t574 != 0)) else (tipstafflaw14_LimitParts.j1 kj9 t550 t551 t567 t571 true)) = some r := H
      have A64 := Aside0.mk A640
      clear A640
      have HC65 := Aside0.mk H
      clear H
      go_upto_region 10 with (first | ((with_reducible refine gate_callee (f := 23) rfl ?_); refine goesL_ (some 82) rfl rfl Try.func23 (by kernel_rfl) rfl #[.slice Ao13 t551.length co13] rfl (by (try simp only [List.map_toArray, List.map_cons, List.map_nil]); first | done | rfl | (simp only [List.length_drop, List.length_take]; rfl)) ?_; (with_reducible refine (limit_Jumps.calls kj9 _ _ t551 t567 t570 _ ?side1 ?side2 A63.out).mono ?_); (case side1 => repeat (first | exact (Kd.R_reads' HO_6.out).2.2 | (with_reducible refine Kd.C_alloc ?_ _) | (with_reducible refine Kd.C_drewN ?_ _) | (with_reducible refine Kd.C_drew ?_))); (case side2 => exact (Kd.R_reads' HO_6.out).2.1); rintro e w66 ⟨v568, rfl, ho0, hb⟩; refine ⟨_, rfl, ?_⟩; have n0_ := Aside0.mk (Kd.R_below (by (with_reducible repeat (first | apply Kd.R_alloc | apply Kd.R_drewN | apply Kd.R_drew)); exact HO_6.out) hb); have n1_ := Aside0.mk (Kd.V_lower (Kd.V_mono (ok' := fun k_ => some k_ ≠ (.slice Ao13 t551.length co13 : Value).ownBlock ∧ k_ ≠ gb558 ∧ k_ ≠ gb566) ho0 (fun k_ hk_ => ⟨(Kd.fresh' (Kd.R_lt (by (with_reducible repeat (first | apply Kd.R_alloc | apply Kd.R_drewN | apply Kd.R_drew)); exact HO_6.out)) k_ hk_), (Kd.freshB (g := gb558) (o := .cells #[.int .i64 t555, .int .i64 t556] 27 (0, 0)) (by (with_reducible repeat (first | refine blk_drewN ?_ _ | refine blk_drew ?_ | refine blk_alloc ?_ _)); exact BK558.out) k_ hk_), (Kd.freshB (g := gb566) (o := .cells #[.int .i64 t563, .int .i64 t564] 27 (0, 0)) (by (with_reducible repeat (first | refine blk_drewN ?_ _ | refine blk_drew ?_ | refine blk_alloc ?_ _)); exact BK566.out) k_ hk_)⟩)) (below_size (by repeat (first | (with_reducible first | exact HB.out | apply below_alloc | apply pw_below_drewN | apply below_drew1 | refine below_set ?_ GE558.out | refine below_set ?_ GE566.out) | exact HB.out)))); have n2_ := Aside0.mk (blk_below (g := gb558) (o := .cells #[.int .i64 t555, .int .i64 t556] 27 (0, 0)) (by (with_reducible repeat (first | refine blk_drewN ?_ _ | refine blk_drew ?_ | refine blk_alloc ?_ _)); exact BK558.out) hb); have n3_ := Aside0.mk (blk_below (g := gb566) (o := .cells #[.int .i64 t563, .int .i64 t564] 27 (0, 0)) (by (with_reducible repeat (first | refine blk_drewN ?_ _ | refine blk_drew ?_ | refine blk_alloc ?_ _)); exact BK566.out) hb); have n5_ := Aside0.mk (below_step (by repeat (first | (with_reducible first | exact HB.out | apply below_alloc | apply pw_below_drewN | apply below_drew1 | refine below_set ?_ GE558.out | refine below_set ?_ GE566.out) | exact HB.out)) hb); clear HO_6; clear BK558; clear BK566; clear HB; have HO_6 := n0_; have HO569 := n1_; have BK558 := n2_; have BK566 := n3_; have HB := n5_; clear n0_ n1_ n2_ n3_ n5_; (try clear hb); (try clear hb2); (try clear hk); (try clear hi); (try clear ho0)) | ((with_reducible refine gate_callee (f := 25) rfl ?_); refine goesL_ (some 87) rfl rfl Try.func25 (by kernel_rfl) rfl #[.slice Ao13 t551.length co13] rfl (by (try simp only [List.map_toArray, List.map_cons, List.map_nil]); first | done | rfl | (simp only [List.length_drop, List.length_take]; rfl)) ?_; (with_reducible refine (limit_Stops.calls kj9 _ _ t551 t571 t574 _ ?side1 ?side2 A64.out).mono ?_); (case side1 => repeat (first | exact (Kd.R_reads' HO_6.out).2.2 | (with_reducible refine Kd.C_alloc ?_ _) | (with_reducible refine Kd.C_drewN ?_ _) | (with_reducible refine Kd.C_drew ?_))); (case side2 => exact (Kd.R_reads' HO_6.out).2.1); rintro e w67 ⟨v572, rfl, ho0, hb⟩; refine ⟨_, rfl, ?_⟩; have n0_ := Aside0.mk (Kd.R_below (by (with_reducible repeat (first | apply Kd.R_alloc | apply Kd.R_drewN | apply Kd.R_drew)); exact HO_6.out) hb); have n1_ := Aside0.mk (Kd.V_below (by (with_reducible repeat (first | apply Kd.V_alloc | apply Kd.V_drewN | apply Kd.V_drew)); exact HO569.out) hb); have n2_ := Aside0.mk (Kd.V_lower (Kd.V_mono (ok' := fun k_ => some k_ ≠ (.slice Ao13 t551.length co13 : Value).ownBlock ∧ k_ ≠ gb558 ∧ k_ ≠ gb566) ho0 (fun k_ hk_ => ⟨(Kd.fresh' (Kd.R_lt (by (with_reducible repeat (first | apply Kd.R_alloc | apply Kd.R_drewN | apply Kd.R_drew)); exact HO_6.out)) k_ hk_), (Kd.freshB (g := gb558) (o := .cells #[.int .i64 t555, .int .i64 t556] 27 (0, 0)) (by (with_reducible repeat (first | refine blk_drewN ?_ _ | refine blk_drew ?_ | refine blk_alloc ?_ _)); exact BK558.out) k_ hk_), (Kd.freshB (g := gb566) (o := .cells #[.int .i64 t563, .int .i64 t564] 27 (0, 0)) (by (with_reducible repeat (first | refine blk_drewN ?_ _ | refine blk_drew ?_ | refine blk_alloc ?_ _)); exact BK566.out) k_ hk_)⟩)) (below_size (by repeat (first | (with_reducible first | exact HB.out | apply below_alloc | apply pw_below_drewN | apply below_drew1 | refine below_set ?_ GE558.out | refine below_set ?_ GE566.out) | exact HB.out)))); have n3_ := Aside0.mk (blk_below (g := gb558) (o := .cells #[.int .i64 t555, .int .i64 t556] 27 (0, 0)) (by (with_reducible repeat (first | refine blk_drewN ?_ _ | refine blk_drew ?_ | refine blk_alloc ?_ _)); exact BK558.out) hb); have n4_ := Aside0.mk (blk_below (g := gb566) (o := .cells #[.int .i64 t563, .int .i64 t564] 27 (0, 0)) (by (with_reducible repeat (first | refine blk_drewN ?_ _ | refine blk_drew ?_ | refine blk_alloc ?_ _)); exact BK566.out) hb); have n6_ := Aside0.mk (below_step (by repeat (first | (with_reducible first | exact HB.out | apply below_alloc | apply pw_below_drewN | apply below_drew1 | refine below_set ?_ GE558.out | refine below_set ?_ GE566.out) | exact HB.out)) hb); clear HO_6; clear HO569; clear BK558; clear BK566; clear HB; have HO_6 := n0_; have HO569 := n1_; have HO573 := n2_; have BK558 := n3_; have BK566 := n4_; have HB := n6_; clear n0_ n1_ n2_ n3_ n4_ n6_; (try clear hb); (try clear hb2); (try clear hk); (try clear hi); (try clear ho0)))
      (try simp only [Act.put, List.setIfInBounds_toArray, List.set_cons_zero, List.set_cons_succ])
      go_cut [95] (fun v95 wc => ∃ (kq : Nat) (x95_64 : Bool), v95 = .bool x95_64 ∧ Aside0 (tipstafflaw14_LimitParts.j1 kq t550 t551 t567 t571 x95_64 = some r) ∧ Aside0 (kq ≤ kj9) ∧ Aside0 (Kd.R k38 38 wc w.heap.size (fun _ => True) (.slice Ao13 t551.length co13) t551) ∧ Aside0 (Kd.V (Kd.int .i64) 3 wc w.heap.size (fun k_ => some k_ ≠ ((.slice Ao13 t551.length co13) : Value).ownBlock ∧ k_ ≠ gb558 ∧ k_ ≠ gb566) v568 t567) ∧ Aside0 (Kd.V (Kd.int .i64) 3 wc w.heap.size (fun k_ => some k_ ≠ ((.slice Ao13 t551.length co13) : Value).ownBlock ∧ k_ ≠ gb558 ∧ k_ ≠ gb566) v572 t571) ∧ Aside0 (wc.heap[gb558]? = some (.cells #[.int .i64 t555, .int .i64 t556] 27 (0, 0))) ∧ Aside0 (wc.heap[gb566]? = some (.cells #[.int .i64 t563, .int .i64 t564] 27 (0, 0))) ∧ Aside0 (Below w.heap.size w wc))
      case first =>
       have H := HC65.out
       clear HC65
       by_cases c68 : t570 = 0
       ·rw [if_pos c68] at H
        have c68b0 : (t570 == 0) = true := beq_iff_eq.mpr c68
        have c68b1 : (t570 != 0) = false := bne_eq_false_iff_eq.mpr c68
        clear c68
        (first | rw [c68b0] | (simp only [i64_w, i32_w]; rw [c68b0]) | skip)
        have H' := Aside0.mk H
        clear H
        go_wp2
        go_meet
        case rel => exact ⟨_, ((t574 != 0)), (by first | rfl | (simp; done) | (simp [*]; done)), H', ⟨by have := HJ9.out; first | omega | exact Nat.le_refl _⟩, ⟨by (with_reducible repeat (first | apply Kd.R_alloc | apply Kd.R_drewN | apply Kd.R_drew)); exact HO_6.out⟩, ⟨by (with_reducible repeat (first | apply Kd.V_alloc | apply Kd.V_drewN | apply Kd.V_drew)); exact HO569.out⟩, ⟨by (with_reducible repeat (first | apply Kd.V_alloc | apply Kd.V_drewN | apply Kd.V_drew)); exact HO573.out⟩, ⟨by (with_reducible repeat (first | refine blk_drewN ?_ _ | refine blk_drew ?_ | refine blk_alloc ?_ _)); exact BK558.out⟩, ⟨by (with_reducible repeat (first | refine blk_drewN ?_ _ | refine blk_drew ?_ | refine blk_alloc ?_ _)); exact BK566.out⟩, ⟨by repeat (first | (with_reducible first | exact HB.out | apply below_alloc | apply pw_below_drewN | apply below_drew1 | refine below_set ?_ GE558.out | refine below_set ?_ GE566.out) | exact HB.out)⟩⟩
       ·rw [if_neg c68] at H
        have c68b0 : (t570 == 0) = false := beq_eq_false_iff_ne.mpr c68
        have c68b1 : (t570 != 0) = true := bne_iff_ne.mpr c68
        (first | rw [c68b0] | (simp only [i64_w, i32_w]; rw [c68b0]) | skip)
        have H' := Aside0.mk H
        clear H
        go_wp2
        go_meet
        case rel => exact ⟨_, (true), (by first | rfl | (simp; done) | (simp [*]; done)), H', ⟨by have := HJ9.out; first | omega | exact Nat.le_refl _⟩, ⟨by (with_reducible repeat (first | apply Kd.R_alloc | apply Kd.R_drewN | apply Kd.R_drew)); exact HO_6.out⟩, ⟨by (with_reducible repeat (first | apply Kd.V_alloc | apply Kd.V_drewN | apply Kd.V_drew)); exact HO569.out⟩, ⟨by (with_reducible repeat (first | apply Kd.V_alloc | apply Kd.V_drewN | apply Kd.V_drew)); exact HO573.out⟩, ⟨by (with_reducible repeat (first | refine blk_drewN ?_ _ | refine blk_drew ?_ | refine blk_alloc ?_ _)); exact BK558.out⟩, ⟨by (with_reducible repeat (first | refine blk_drewN ?_ _ | refine blk_drew ?_ | refine blk_alloc ?_ _)); exact BK566.out⟩, ⟨by repeat (first | (with_reducible first | exact HB.out | apply below_alloc | apply pw_below_drewN | apply below_drew1 | refine below_set ?_ GE558.out | refine below_set ?_ GE566.out) | exact HB.out)⟩⟩
      case rest =>
       clear HC65
       try clear c1
       try clear q1
       try clear c2
       try clear p2
       try clear c3
       try clear c4
       try clear c5
       try clear c6
       try clear p6
       try clear c7
       try clear c7b0
       try clear c7b1
       try clear c8
       try clear c8b0
       try clear c8b1
       try clear c9
       try clear c13
       try clear q18
       try clear c21
       try clear c23
       try clear c23b0
       try clear c23b1
       try clear c24
       try clear c24b0
       try clear c24b1
       try clear c25
       try clear c25b0
       try clear c26
       try clear c26b0
       try clear c27
       try clear c27b0
       try clear c28
       try clear c31
       try clear c31b0
       try clear c31b1
       try clear c32
       try clear c35
       try clear c35b0
       try clear c36
       try clear c39
       try clear c42
       try clear c42b0
       try clear c42b1
       try clear c43
       try clear c46
       try clear c46b0
       try clear c47
       try clear c50
       try clear c52
       try clear c52b0
       try clear c52b1
       try clear c53
       try clear c56
       try clear c56b0
       try clear c57
       try clear c60
       try clear c62
       try clear p64
       try clear c68
       try clear c68b0
       try clear c68b1
       try clear hcz16_0
       try clear hcz16_1
       try clear hcz22_0
       try clear hcz22_1
       try clear hcz29_0
       try clear hcz29_1
       try clear hcz30_0
       try clear hcz30_1
       try clear hcz33_0
       try clear hcz33_1
       try clear hcz34_0
       try clear hcz34_1
       try clear hcz37_0
       try clear hcz37_1
       try clear hcz38_0
       try clear hcz38_1
       try clear hcz40_0
       try clear hcz40_1
       try clear hcz41_0
       try clear hcz41_1
       try clear hcz44_0
       try clear hcz44_1
       try clear hcz45_0
       try clear hcz45_1
       try clear hcz48_0
       try clear hcz48_1
       try clear hcz49_0
       try clear hcz49_1
       try clear hcz51_0
       try clear hcz51_1
       try clear hcz54_0
       try clear hcz54_1
       try clear hcz55_0
       try clear hcz55_1
       try clear hcz58_0
       try clear hcz58_1
       try clear hcz59_0
       try clear hcz59_1
       try clear hcz61_0
       try clear hcz61_1
       try clear hfz16_0
       try clear hfz16_1
       try clear hfz22_0
       try clear hfz22_1
       try clear hfz29_0
       try clear hfz29_1
       try clear hfz30_0
       try clear hfz30_1
       try clear hfz33_0
       try clear hfz33_1
       try clear hfz34_0
       try clear hfz34_1
       try clear hfz37_0
       try clear hfz37_1
       try clear hfz38_0
       try clear hfz38_1
       try clear hfz40_0
       try clear hfz40_1
       try clear hfz41_0
       try clear hfz41_1
       try clear hfz44_0
       try clear hfz44_1
       try clear hfz45_0
       try clear hfz45_1
       try clear hfz48_0
       try clear hfz48_1
       try clear hfz49_0
       try clear hfz49_1
       try clear hfz51_0
       try clear hfz51_1
       try clear hfz54_0
       try clear hfz54_1
       try clear hfz55_0
       try clear hfz55_1
       try clear hfz58_0
       try clear hfz58_1
       try clear hfz59_0
       try clear hfz59_1
       try clear hfz61_0
       try clear hfz61_1
       try clear p2
       try clear p6
       try clear q1
       try clear q18
       obtain ⟨kq, x95_64, rfl, HA, HJ64, HO_6, HO_11, HO_13, BK558, BK566, HB⟩ := hcut
       cases kq with
       | zero => exact absurd HA.out (by simp [tipstafflaw14_LimitParts.j1])
       | succ kj64 =>
        have H := HA.out
        clear HA
        simp only [tipstafflaw14_LimitParts.j1] at H
        by_cases c69 : x95_64 = true
        ·subst c69
         have H1 : (none) = some r := by rw [if_pos rfl] at H; exact H
         clear H
         have H := H1
         clear H1
         exact absurd H (by simp)
        ·replace c69 := Bool.eq_false_iff.mpr c69
         subst c69
         have H1 : (tipstafflaw14_LimitParts.l0 kj64 t550 t551 t567 t571 ([] : List Int) ([] : List Int) 1) = some r := by rw [if_neg (show ¬ (false = true) by decide)] at H; exact H
         clear H
         have H := H1
         clear H1
         have H' := Aside0.mk H
         clear H
         go_wp2
         go_loopg [15, 16, 17] kj64 (fun kq v15 v16 v17 w' => ∃ (x15_3 : List Int) (x16_3 : List Int) (x17_3 : Int), v17 = .int .i64 x17_3 ∧ Aside0 (tipstafflaw14_LimitParts.l0 kq t550 t551 t567 t571 x15_3 x16_3 x17_3 = some r) ∧ Aside0 (kq ≤ kj64) ∧ Aside0 (Kd.R k38 38 w' w.heap.size (fun _ => True) (.slice Ao13 t551.length co13) t551) ∧ Aside0 (Kd.V (Kd.int .i64) 3 w' w.heap.size (fun k_ => some k_ ≠ ((.slice Ao13 t551.length co13) : Value).ownBlock ∧ some k_ ≠ (v15 : Value).ownBlock ∧ some k_ ≠ (v16 : Value).ownBlock ∧ k_ ≠ gb558 ∧ k_ ≠ gb566) v568 t567) ∧ Aside0 (Kd.V (Kd.int .i64) 3 w' w.heap.size (fun k_ => some k_ ≠ ((.slice Ao13 t551.length co13) : Value).ownBlock ∧ some k_ ≠ (v15 : Value).ownBlock ∧ some k_ ≠ (v16 : Value).ownBlock ∧ k_ ≠ gb558 ∧ k_ ≠ gb566) v572 t571) ∧ Aside0 (Kd.R (Kd.int .i64) 3 w' w.heap.size (fun k_ => some k_ ≠ (v16 : Value).ownBlock) v15 x15_3) ∧ Aside0 (Kd.R (Kd.int .i64) 3 w' w.heap.size (fun k_ => some k_ ≠ (v15 : Value).ownBlock) v16 x16_3) ∧ Aside0 (w'.heap[gb558]? = some (.cells #[.int .i64 t555, .int .i64 t556] 27 (0, 0))) ∧ Aside0 (w'.heap[gb566]? = some (.cells #[.int .i64 t563, .int .i64 t564] 27 (0, 0))) ∧ Aside0 (Below w.heap.size w w'))
         case atStart => exact ⟨(([] : List Int)), (([] : List Int)), (1), (by first | rfl | (simp; done) | (simp [*]; done)), H', ⟨Nat.le_refl _⟩, ⟨by (with_reducible repeat (first | apply Kd.R_alloc | apply Kd.R_drewN | apply Kd.R_drew)); exact HO_6.out⟩, ⟨by (with_reducible repeat (first | apply Kd.V_alloc | apply Kd.V_drewN | apply Kd.V_drew)); exact Kd.V_mono HO_11.out (fun _ hk => ⟨hk.1, ⟨(by simp [Value.ownBlock]), ⟨(by simp [Value.ownBlock]), ⟨hk.2.1, hk.2.2⟩⟩⟩⟩)⟩, ⟨by (with_reducible repeat (first | apply Kd.V_alloc | apply Kd.V_drewN | apply Kd.V_drew)); exact Kd.V_mono HO_13.out (fun _ hk => ⟨hk.1, ⟨(by simp [Value.ownBlock]), ⟨(by simp [Value.ownBlock]), ⟨hk.2.1, hk.2.2⟩⟩⟩⟩)⟩, ⟨by first | exact Kd.R_nil _ _ _ _ _ | exact Kd.N_nil _ _ _ _ _ | exact Kd.V_nil _ _ _ _ _ | exact Kd.Q_nil _ _ _ _ _ | exact Kd.S_nil _ _ _ _ _⟩, ⟨by first | exact Kd.R_nil _ _ _ _ _ | exact Kd.N_nil _ _ _ _ _ | exact Kd.V_nil _ _ _ _ _ | exact Kd.Q_nil _ _ _ _ _ | exact Kd.S_nil _ _ _ _ _⟩, ⟨by (with_reducible repeat (first | refine blk_drewN ?_ _ | refine blk_drew ?_ | refine blk_alloc ?_ _)); exact BK558.out⟩, ⟨by (with_reducible repeat (first | refine blk_drewN ?_ _ | refine blk_drew ?_ | refine blk_alloc ?_ _)); exact BK566.out⟩, ⟨by repeat (first | (with_reducible first | exact HB.out | apply below_alloc | apply pw_below_drewN | apply below_drew1 | refine below_set ?_ GE558.out | refine below_set ?_ GE566.out) | exact HB.out)⟩⟩
         case round =>
          clear H'
          try clear c1
          try clear q1
          try clear c2
          try clear p2
          try clear c3
          try clear c4
          try clear c5
          try clear c6
          try clear p6
          try clear c7
          try clear c7b0
          try clear c7b1
          try clear c8
          try clear c8b0
          try clear c8b1
          try clear c9
          try clear c13
          try clear q18
          try clear c21
          try clear c23
          try clear c23b0
          try clear c23b1
          try clear c24
          try clear c24b0
          try clear c24b1
          try clear c25
          try clear c25b0
          try clear c26
          try clear c26b0
          try clear c27
          try clear c27b0
          try clear c28
          try clear c31
          try clear c31b0
          try clear c31b1
          try clear c32
          try clear c35
          try clear c35b0
          try clear c36
          try clear c39
          try clear c42
          try clear c42b0
          try clear c42b1
          try clear c43
          try clear c46
          try clear c46b0
          try clear c47
          try clear c50
          try clear c52
          try clear c52b0
          try clear c52b1
          try clear c53
          try clear c56
          try clear c56b0
          try clear c57
          try clear c60
          try clear c62
          try clear p64
          try clear c68
          try clear c68b0
          try clear c68b1
          try clear c69
          try clear hcz16_0
          try clear hcz16_1
          try clear hcz22_0
          try clear hcz22_1
          try clear hcz29_0
          try clear hcz29_1
          try clear hcz30_0
          try clear hcz30_1
          try clear hcz33_0
          try clear hcz33_1
          try clear hcz34_0
          try clear hcz34_1
          try clear hcz37_0
          try clear hcz37_1
          try clear hcz38_0
          try clear hcz38_1
          try clear hcz40_0
          try clear hcz40_1
          try clear hcz41_0
          try clear hcz41_1
          try clear hcz44_0
          try clear hcz44_1
          try clear hcz45_0
          try clear hcz45_1
          try clear hcz48_0
          try clear hcz48_1
          try clear hcz49_0
          try clear hcz49_1
          try clear hcz51_0
          try clear hcz51_1
          try clear hcz54_0
          try clear hcz54_1
          try clear hcz55_0
          try clear hcz55_1
          try clear hcz58_0
          try clear hcz58_1
          try clear hcz59_0
          try clear hcz59_1
          try clear hcz61_0
          try clear hcz61_1
          try clear hfz16_0
          try clear hfz16_1
          try clear hfz22_0
          try clear hfz22_1
          try clear hfz29_0
          try clear hfz29_1
          try clear hfz30_0
          try clear hfz30_1
          try clear hfz33_0
          try clear hfz33_1
          try clear hfz34_0
          try clear hfz34_1
          try clear hfz37_0
          try clear hfz37_1
          try clear hfz38_0
          try clear hfz38_1
          try clear hfz40_0
          try clear hfz40_1
          try clear hfz41_0
          try clear hfz41_1
          try clear hfz44_0
          try clear hfz44_1
          try clear hfz45_0
          try clear hfz45_1
          try clear hfz48_0
          try clear hfz48_1
          try clear hfz49_0
          try clear hfz49_1
          try clear hfz51_0
          try clear hfz51_1
          try clear hfz54_0
          try clear hfz54_1
          try clear hfz55_0
          try clear hfz55_1
          try clear hfz58_0
          try clear hfz58_1
          try clear hfz59_0
          try clear hfz59_1
          try clear hfz61_0
          try clear hfz61_1
          try clear p2
          try clear p6
          try clear p64
          try clear q1
          try clear q18
          obtain ⟨x15_3, x16_3, x17_3, rfl, HA, HK3, HO_6, HO_11, HO_13, HO_15, HO_16, BK558, BK566, HB⟩ := hrel
          cases gk with
          | zero => exact absurd HA.out (by simp [tipstafflaw14_LimitParts.l0])
          | succ k3 =>
           have H := HA.out
           clear HA
           simp only [tipstafflaw14_LimitParts.l0] at H
           by_cases c70 : x17_3 < (t551.length : Int)
           ·rw [if_pos c70] at H
            have c70b0 : decide (x17_3 < (t551.length : Int)) = true := decide_eq_true c70
            clear c70
            obtain ⟨ji71, hji71⟩ : ∃ j_ : Int, (wrap64 (x17_3 - 1)) = j_ := ⟨_, rfl⟩
            replace H : (if 0 ≤ (ji71) then (if (ji71) ≤ (wrap64 (x17_3 + 1)) then (if (wrap64 (x17_3 + 1)) ≤ (t551.length : Int) then ((limit_Jumps.f k3 ((t551.take ((wrap64 (x17_3 + 1)) : Int).toNat).drop ((ji71) : Int).toNat)).bind fun bt581 => ((limit_Stops.f k3 ((t551.take ((wrap64 (x17_3 + 1)) : Int).toNat).drop ((ji71) : Int).toNat)).bind fun bt589 => (if bt581.2 = 0 then (if bt589.2 = 0 then (if (bt581.1.length : Int) > 1 then (tipstafflaw14_LimitParts.j3 k3 t550 t551 t567 t571 x15_3 x16_3 x17_3 bt581.1 bt589.1 true) else (tipstafflaw14_LimitParts.j3 k3 t550 t551 t567 t571 x15_3 x16_3 x17_3 bt581.1 bt589.1 (decide ((bt589.1.length : Int) > 1)))) else (tipstafflaw14_LimitParts.j3 k3 t550 t551 t567 t571 x15_3 x16_3 x17_3 bt581.1 bt589.1 true)) else (tipstafflaw14_LimitParts.j3 k3 t550 t551 t567 t571 x15_3 x16_3 x17_3 bt581.1 bt589.1 true)))) else (none)) else (none)) else (none)) = some r := by first | (rw [hji71] at H; exact H) | (simp only [hji71] at H ⊢; exact H)
            have hji71w : (IntKind.i64.wrap (x17_3 - 1)) = ji71 := (i64_w _).trans hji71
            by_cases c72 : 0 ≤ (ji71)
            ·rw [if_pos c72] at H
             have c72b0 := eq_true c72
             have c72b1 : decide (0 ≤ (ji71)) = true := decide_eq_true c72
             clear c72
             by_cases c73 : (ji71) ≤ (wrap64 (x17_3 + 1))
             ·rw [if_pos c73] at H
              have c73b0 := eq_true c73
              have c73b1 : decide ((ji71) ≤ (wrap64 (x17_3 + 1))) = true := decide_eq_true c73
              by_cases c74 : (wrap64 (x17_3 + 1)) ≤ (t551.length : Int)
              ·rw [if_pos c74] at H
               have c74b0 := eq_true c74
               have c74b1 : decide ((wrap64 (x17_3 + 1)) ≤ (t551.length : Int)) = true := decide_eq_true c74
               obtain ⟨y577, hy577⟩ : ∃ y_ : List (S38), y_ = ((t551.take ((wrap64 (x17_3 + 1)) : Int).toNat).drop ((ji71) : Int).toNat) := ⟨_, rfl⟩
               replace H : ((limit_Jumps.f k3 y577).bind fun bt581 => ((limit_Stops.f k3 ((t551.take ((wrap64 (x17_3 + 1)) : Int).toNat).drop ((ji71) : Int).toNat)).bind fun bt589 => (if bt581.2 = 0 then (if bt589.2 = 0 then (if (bt581.1.length : Int) > 1 then (tipstafflaw14_LimitParts.j3 k3 t550 t551 t567 t571 x15_3 x16_3 x17_3 bt581.1 bt589.1 true) else (tipstafflaw14_LimitParts.j3 k3 t550 t551 t567 t571 x15_3 x16_3 x17_3 bt581.1 bt589.1 (decide ((bt589.1.length : Int) > 1)))) else (tipstafflaw14_LimitParts.j3 k3 t550 t551 t567 t571 x15_3 x16_3 x17_3 bt581.1 bt589.1 true)) else (tipstafflaw14_LimitParts.j3 k3 t550 t551 t567 t571 x15_3 x16_3 x17_3 bt581.1 bt589.1 true)))) = some r := by first | (rw [hy577]; with_reducible exact H) | (have H2_ := (Option.bind_some _ _).symm.trans H; rw [hy577]; with_reducible exact H2_) | (have H2_ := (Option.bind_some _ _).symm.trans H; with_reducible exact H2_) | with_reducible exact H | (rw [hy577]; exact H) | exact H
               have Ny577 := Aside0.mk hy577
               clear hy577
               replace H := Option.bind_eq_some_iff.mp H
               obtain ⟨⟨t581, t584⟩, A750, H⟩ := H
               try dsimp only at H
               have A75 := Aside0.mk A750
               clear A750
               have c76b0 := eq_true (of_decide_eq_true (by first | (with_reducible assumption) | assumption) : 0 ≤ (ji71))
               have c77b0 := eq_true (of_decide_eq_true (by first | (with_reducible assumption) | assumption) : (ji71) ≤ (wrap64 (x17_3 + 1)))
               have c78b0 := eq_true (of_decide_eq_true (by first | (with_reducible assumption) | assumption) : (wrap64 (x17_3 + 1)) ≤ (t551.length : Int))
               obtain ⟨y585, hy585⟩ : ∃ y_ : List (S38), y_ = ((t551.take ((wrap64 (x17_3 + 1)) : Int).toNat).drop ((ji71) : Int).toNat) := ⟨_, rfl⟩
               replace H : ((limit_Stops.f k3 y585).bind fun bt589 => (if t584 = 0 then (if bt589.2 = 0 then (if (t581.length : Int) > 1 then (tipstafflaw14_LimitParts.j3 k3 t550 t551 t567 t571 x15_3 x16_3 x17_3 t581 bt589.1 true) else (tipstafflaw14_LimitParts.j3 k3 t550 t551 t567 t571 x15_3 x16_3 x17_3 t581 bt589.1 (decide ((bt589.1.length : Int) > 1)))) else (tipstafflaw14_LimitParts.j3 k3 t550 t551 t567 t571 x15_3 x16_3 x17_3 t581 bt589.1 true)) else (tipstafflaw14_LimitParts.j3 k3 t550 t551 t567 t571 x15_3 x16_3 x17_3 t581 bt589.1 true))) = some r := by first | (rw [hy585]; with_reducible exact H) | (have H2_ := (Option.bind_some _ _).symm.trans H; rw [hy585]; with_reducible exact H2_) | (have H2_ := (Option.bind_some _ _).symm.trans H; with_reducible exact H2_) | with_reducible exact H | (rw [hy585]; exact H) | exact H
               have Ny585 := Aside0.mk hy585
               clear hy585
               replace H := Option.bind_eq_some_iff.mp H
               obtain ⟨⟨t589, t592⟩, A790, H⟩ := H
               try dsimp only at H
               have A79 := Aside0.mk A790
               clear A790
               have HC80 := Aside0.mk H
               clear H
               have q81 : ((wrap64 (x17_3 + 1)) : Int) ≤ ((t551.length : Int) : Int) := of_decide_eq_true (by first | (with_reducible assumption) | assumption)
               obtain ⟨i081, hi081, _, hsz81, _⟩ := info_parts info38
               have hroom81 : t551.length ≤ co13 := (Kd.R_reads' HO_6.out).2.1
               have hC81 : Kd.C k38 _ Ao13 t551.length t551 := (Kd.R_reads' HO_6.out).2.2
               have ql81 : ((ji71) : Int) ≤ ((wrap64 (x17_3 + 1)) : Int) := of_decide_eq_true (by first | (with_reducible assumption) | assumption)
               have q081 : (0 : Int) ≤ ((ji71) : Int) := of_decide_eq_true (by first | (with_reducible assumption) | assumption)
               have hcut81 := cut_mid (P := Try.prog) 22 38 .i64 .i64 Try.underlying22 hi081 5 hsz81 Ao13 t551.length co13 (ji71) (wrap64 (x17_3 + 1)) q081 ql81 q81 hroom81
               have hr81 := Kd.C_mid (lo := ((ji71) : Int).toNat) (hi := ((wrap64 (x17_3 + 1)) : Int).toNat) (c := co13) hC81 (by omega) (by omega) hroom81
               obtain ⟨A81, hA81⟩ : ∃ A1, A1 = (if co13 = ((ji71) : Int).toNat then Ao13 else (Ao13 : Option Addr).map (·.add (((ji71) : Int).toNat * 5))) := ⟨_, rfl⟩
               obtain ⟨c81, hc81⟩ : ∃ c1, c1 = co13 - ((ji71) : Int).toNat := ⟨_, rfl⟩
               have hy81 : y577.length = ((wrap64 (x17_3 + 1)) : Int).toNat - ((ji71) : Int).toNat := (by rw [Ny577.out, List.length_drop, List.length_take] <;> omega)
               rw [show ((t551).take ((wrap64 (x17_3 + 1)) : Int).toNat).drop ((ji71) : Int).toNat = y577 from Ny577.out.symm] at hr81
               replace hr81 : Kd.C k38 _ A81 y577.length y577 := (by rw [hA81]; exact hr81)
               rw [← hy81, ← hA81, ← hc81] at hcut81
               have HR580 := Aside0.mk hr81
               have HC580 := Aside0.mk (show y577.length ≤ c81 from by rw [hy81, hc81]; exact Nat.sub_le_sub_right (Nat.le_trans (by omega) hroom81) _)
               clear hr81 hC81 hroom81 hi081 hsz81 hc81
               have KY81 := Aside0.mk hy81
               have KA81 := Aside0.mk hA81
               clear hy81 hA81
               have KL81 := Aside0.mk (show ((wrap64 (x17_3 + 1)) : Int).toNat ≤ t551.length from by omega)
               have KM81 := Aside0.mk (show ((ji71) : Int).toNat ≤ ((wrap64 (x17_3 + 1)) : Int).toNat from by omega)
               replace q81 := eq_true q81
               go_upto_region 18 with (first | ((with_reducible refine gate_callee (f := 23) rfl ?_); refine goesL_ (some 109) rfl rfl Try.func23 (by kernel_rfl) rfl #[.slice A81 y577.length c81] rfl (by (try simp only [List.map_toArray, List.map_cons, List.map_nil]); first | done | rfl | (simp only [List.length_drop, List.length_take]; rfl)) ?_; (with_reducible refine (limit_Jumps.calls k3 _ _ y577 t581 t584 _ ?side1 ?side2 A75.out).mono ?_); (case side1 => repeat (first | exact (by repeat (first | (with_reducible exact HR580.out) | (with_reducible refine Kd.C_alloc ?_ _) | (with_reducible refine Kd.C_drewN ?_ _) | (with_reducible refine Kd.C_drew ?_) | exact HR580.out)) | (with_reducible refine Kd.C_alloc ?_ _) | (with_reducible refine Kd.C_drewN ?_ _) | (with_reducible refine Kd.C_drew ?_))); (case side2 => exact HC580.out); rintro e w82 ⟨v582, rfl, ho0, hb⟩; refine ⟨_, rfl, ?_⟩; clear hcut81; have n0_ := Aside0.mk (Kd.R_below (by (with_reducible repeat (first | apply Kd.R_alloc | apply Kd.R_drewN | apply Kd.R_drew)); exact HO_6.out) hb); have n1_ := Aside0.mk (Kd.V_below (by (with_reducible repeat (first | apply Kd.V_alloc | apply Kd.V_drewN | apply Kd.V_drew)); exact HO_11.out) hb); have n2_ := Aside0.mk (Kd.V_below (by (with_reducible repeat (first | apply Kd.V_alloc | apply Kd.V_drewN | apply Kd.V_drew)); exact HO_13.out) hb); have n3_ := Aside0.mk (Kd.R_below (by (with_reducible repeat (first | apply Kd.R_alloc | apply Kd.R_drewN | apply Kd.R_drew)); exact HO_15.out) hb); have n4_ := Aside0.mk (Kd.R_below (by (with_reducible repeat (first | apply Kd.R_alloc | apply Kd.R_drewN | apply Kd.R_drew)); exact HO_16.out) hb); have n5_ := Aside0.mk (Kd.V_lower (Kd.V_mono (ok' := fun k_ => some k_ ≠ (.slice Ao13 t551.length co13 : Value).ownBlock ∧ some k_ ≠ (u15 : Value).ownBlock ∧ some k_ ≠ (u16 : Value).ownBlock ∧ k_ ≠ gb558 ∧ k_ ≠ gb566) ho0 (fun k_ hk_ => ⟨(Kd.fresh' (Kd.R_lt (by (with_reducible repeat (first | apply Kd.R_alloc | apply Kd.R_drewN | apply Kd.R_drew)); exact HO_6.out)) k_ hk_), (Kd.fresh' (Kd.R_lt (by (with_reducible repeat (first | apply Kd.R_alloc | apply Kd.R_drewN | apply Kd.R_drew)); exact HO_15.out)) k_ hk_), (Kd.fresh' (Kd.R_lt (by (with_reducible repeat (first | apply Kd.R_alloc | apply Kd.R_drewN | apply Kd.R_drew)); exact HO_16.out)) k_ hk_), (Kd.freshB (g := gb558) (o := .cells #[.int .i64 t555, .int .i64 t556] 27 (0, 0)) (by (with_reducible repeat (first | refine blk_drewN ?_ _ | refine blk_drew ?_ | refine blk_alloc ?_ _)); exact BK558.out) k_ hk_), (Kd.freshB (g := gb566) (o := .cells #[.int .i64 t563, .int .i64 t564] 27 (0, 0)) (by (with_reducible repeat (first | refine blk_drewN ?_ _ | refine blk_drew ?_ | refine blk_alloc ?_ _)); exact BK566.out) k_ hk_)⟩)) (below_size (by repeat (first | (with_reducible first | exact HB.out | apply below_alloc | apply pw_below_drewN | apply below_drew1 | refine below_set ?_ GE558.out | refine below_set ?_ GE566.out) | exact HB.out)))); have n6_ := Aside0.mk (blk_below (g := gb558) (o := .cells #[.int .i64 t555, .int .i64 t556] 27 (0, 0)) (by (with_reducible repeat (first | refine blk_drewN ?_ _ | refine blk_drew ?_ | refine blk_alloc ?_ _)); exact BK558.out) hb); have n7_ := Aside0.mk (blk_below (g := gb566) (o := .cells #[.int .i64 t563, .int .i64 t564] 27 (0, 0)) (by (with_reducible repeat (first | refine blk_drewN ?_ _ | refine blk_drew ?_ | refine blk_alloc ?_ _)); exact BK566.out) hb); have n8_ := Aside0.mk (Kd.C_below (by repeat (first | (with_reducible exact HR580.out) | (with_reducible refine Kd.C_alloc ?_ _) | (with_reducible refine Kd.C_drewN ?_ _) | (with_reducible refine Kd.C_drew ?_) | exact HR580.out)) hb); have n9_ := Aside0.mk (below_step (by repeat (first | (with_reducible first | exact HB.out | apply below_alloc | apply pw_below_drewN | apply below_drew1 | refine below_set ?_ GE558.out | refine below_set ?_ GE566.out) | exact HB.out)) hb); clear HO_6; clear HO_11; clear HO_13; clear HO_15; clear HO_16; clear BK558; clear BK566; clear HR580; clear HB; have HO_6 := n0_; have HO_11 := n1_; have HO_13 := n2_; have HO_15 := n3_; have HO_16 := n4_; have HO583 := n5_; have BK558 := n6_; have BK566 := n7_; have HR580 := n8_; have HB := n9_; clear n0_ n1_ n2_ n3_ n4_ n5_ n6_ n7_ n8_ n9_; (try clear hb); (try clear hb2); (try clear hk); (try clear hi); (try clear ho0); have q83 : ((wrap64 (x17_3 + 1)) : Int) ≤ ((t551.length : Int) : Int) := of_decide_eq_true (by first | (with_reducible assumption) | assumption); obtain ⟨i083, hi083, _, hsz83, _⟩ := info_parts info38; have hroom83 : t551.length ≤ co13 := (Kd.R_reads' HO_6.out).2.1; have hC83 : Kd.C k38 _ Ao13 t551.length t551 := (Kd.R_reads' HO_6.out).2.2; have ql83 : ((ji71) : Int) ≤ ((wrap64 (x17_3 + 1)) : Int) := of_decide_eq_true (by first | (with_reducible assumption) | assumption); have q083 : (0 : Int) ≤ ((ji71) : Int) := of_decide_eq_true (by first | (with_reducible assumption) | assumption); have hcut83 := cut_mid (P := Try.prog) 22 38 .i64 .i64 Try.underlying22 hi083 5 hsz83 Ao13 t551.length co13 (ji71) (wrap64 (x17_3 + 1)) q083 ql83 q83 hroom83; have hr83 := Kd.C_mid (lo := ((ji71) : Int).toNat) (hi := ((wrap64 (x17_3 + 1)) : Int).toNat) (c := co13) hC83 (by omega) (by omega) hroom83; obtain ⟨A83, hA83⟩ : ∃ A1, A1 = (if co13 = ((ji71) : Int).toNat then Ao13 else (Ao13 : Option Addr).map (·.add (((ji71) : Int).toNat * 5))) := ⟨_, rfl⟩; obtain ⟨c83, hc83⟩ : ∃ c1, c1 = co13 - ((ji71) : Int).toNat := ⟨_, rfl⟩; have hy83 : y585.length = ((wrap64 (x17_3 + 1)) : Int).toNat - ((ji71) : Int).toNat := (by rw [Ny585.out, List.length_drop, List.length_take] <;> omega); rw [show ((t551).take ((wrap64 (x17_3 + 1)) : Int).toNat).drop ((ji71) : Int).toNat = y585 from Ny585.out.symm] at hr83; replace hr83 : Kd.C k38 _ A83 y585.length y585 := (by rw [hA83]; exact hr83); rw [← hy83, ← hA83, ← hc83] at hcut83; have HR588 := Aside0.mk hr83; have HC588 := Aside0.mk (show y585.length ≤ c83 from by rw [hy83, hc83]; exact Nat.sub_le_sub_right (Nat.le_trans (by omega) hroom83) _); clear hr83 hC83 hroom83 hi083 hsz83 hc83; have KY83 := Aside0.mk hy83; have KA83 := Aside0.mk hA83; clear hy83 hA83; have KL83 := Aside0.mk (show ((wrap64 (x17_3 + 1)) : Int).toNat ≤ t551.length from by omega); have KM83 := Aside0.mk (show ((ji71) : Int).toNat ≤ ((wrap64 (x17_3 + 1)) : Int).toNat from by omega); replace q83 := eq_true q83) | ((with_reducible refine gate_callee (f := 25) rfl ?_); refine goesL_ (some 119) rfl rfl Try.func25 (by kernel_rfl) rfl #[.slice A83 y585.length c83] rfl (by (try simp only [List.map_toArray, List.map_cons, List.map_nil]); first | done | rfl | (simp only [List.length_drop, List.length_take]; rfl)) ?_; (with_reducible refine (limit_Stops.calls k3 _ _ y585 t589 t592 _ ?side1 ?side2 A79.out).mono ?_); (case side1 => repeat (first | exact (by repeat (first | (with_reducible exact HR588.out) | (with_reducible refine Kd.C_alloc ?_ _) | (with_reducible refine Kd.C_drewN ?_ _) | (with_reducible refine Kd.C_drew ?_) | exact HR588.out)) | (with_reducible refine Kd.C_alloc ?_ _) | (with_reducible refine Kd.C_drewN ?_ _) | (with_reducible refine Kd.C_drew ?_))); (case side2 => exact HC588.out); rintro e w84 ⟨v590, rfl, ho0, hb⟩; refine ⟨_, rfl, ?_⟩; have n0_ := Aside0.mk (Kd.R_below (by (with_reducible repeat (first | apply Kd.R_alloc | apply Kd.R_drewN | apply Kd.R_drew)); exact HO_6.out) hb); have n1_ := Aside0.mk (Kd.V_below (by (with_reducible repeat (first | apply Kd.V_alloc | apply Kd.V_drewN | apply Kd.V_drew)); exact HO_11.out) hb); have n2_ := Aside0.mk (Kd.V_below (by (with_reducible repeat (first | apply Kd.V_alloc | apply Kd.V_drewN | apply Kd.V_drew)); exact HO_13.out) hb); have n3_ := Aside0.mk (Kd.R_below (by (with_reducible repeat (first | apply Kd.R_alloc | apply Kd.R_drewN | apply Kd.R_drew)); exact HO_15.out) hb); have n4_ := Aside0.mk (Kd.R_below (by (with_reducible repeat (first | apply Kd.R_alloc | apply Kd.R_drewN | apply Kd.R_drew)); exact HO_16.out) hb); have n5_ := Aside0.mk (Kd.V_below (by (with_reducible repeat (first | apply Kd.V_alloc | apply Kd.V_drewN | apply Kd.V_drew)); exact HO583.out) hb); have n6_ := Aside0.mk (Kd.V_lower (Kd.V_mono (ok' := fun k_ => some k_ ≠ (.slice Ao13 t551.length co13 : Value).ownBlock ∧ some k_ ≠ (u15 : Value).ownBlock ∧ some k_ ≠ (u16 : Value).ownBlock ∧ k_ ≠ gb558 ∧ k_ ≠ gb566) ho0 (fun k_ hk_ => ⟨(Kd.fresh' (Kd.R_lt (by (with_reducible repeat (first | apply Kd.R_alloc | apply Kd.R_drewN | apply Kd.R_drew)); exact HO_6.out)) k_ hk_), (Kd.fresh' (Kd.R_lt (by (with_reducible repeat (first | apply Kd.R_alloc | apply Kd.R_drewN | apply Kd.R_drew)); exact HO_15.out)) k_ hk_), (Kd.fresh' (Kd.R_lt (by (with_reducible repeat (first | apply Kd.R_alloc | apply Kd.R_drewN | apply Kd.R_drew)); exact HO_16.out)) k_ hk_), (Kd.freshB (g := gb558) (o := .cells #[.int .i64 t555, .int .i64 t556] 27 (0, 0)) (by (with_reducible repeat (first | refine blk_drewN ?_ _ | refine blk_drew ?_ | refine blk_alloc ?_ _)); exact BK558.out) k_ hk_), (Kd.freshB (g := gb566) (o := .cells #[.int .i64 t563, .int .i64 t564] 27 (0, 0)) (by (with_reducible repeat (first | refine blk_drewN ?_ _ | refine blk_drew ?_ | refine blk_alloc ?_ _)); exact BK566.out) k_ hk_)⟩)) (below_size (by repeat (first | (with_reducible first | exact HB.out | apply below_alloc | apply pw_below_drewN | apply below_drew1 | refine below_set ?_ GE558.out | refine below_set ?_ GE566.out) | exact HB.out)))); have n7_ := Aside0.mk (blk_below (g := gb558) (o := .cells #[.int .i64 t555, .int .i64 t556] 27 (0, 0)) (by (with_reducible repeat (first | refine blk_drewN ?_ _ | refine blk_drew ?_ | refine blk_alloc ?_ _)); exact BK558.out) hb); have n8_ := Aside0.mk (blk_below (g := gb566) (o := .cells #[.int .i64 t563, .int .i64 t564] 27 (0, 0)) (by (with_reducible repeat (first | refine blk_drewN ?_ _ | refine blk_drew ?_ | refine blk_alloc ?_ _)); exact BK566.out) hb); have n9_ := Aside0.mk (Kd.C_below (by repeat (first | (with_reducible exact HR580.out) | (with_reducible refine Kd.C_alloc ?_ _) | (with_reducible refine Kd.C_drewN ?_ _) | (with_reducible refine Kd.C_drew ?_) | exact HR580.out)) hb); have n10_ := Aside0.mk (Kd.C_below (by repeat (first | (with_reducible exact HR588.out) | (with_reducible refine Kd.C_alloc ?_ _) | (with_reducible refine Kd.C_drewN ?_ _) | (with_reducible refine Kd.C_drew ?_) | exact HR588.out)) hb); have n11_ := Aside0.mk (below_step (by repeat (first | (with_reducible first | exact HB.out | apply below_alloc | apply pw_below_drewN | apply below_drew1 | refine below_set ?_ GE558.out | refine below_set ?_ GE566.out) | exact HB.out)) hb); clear HO_6; clear HO_11; clear HO_13; clear HO_15; clear HO_16; clear HO583; clear BK558; clear BK566; clear HR580; clear HR588; clear HB; have HO_6 := n0_; have HO_11 := n1_; have HO_13 := n2_; have HO_15 := n3_; have HO_16 := n4_; have HO583 := n5_; have HO591 := n6_; have BK558 := n7_; have BK566 := n8_; have HR580 := n9_; have HR588 := n10_; have HB := n11_; clear n0_ n1_ n2_ n3_ n4_ n5_ n6_ n7_ n8_ n9_ n10_ n11_; (try clear hb); (try clear hb2); (try clear hk); (try clear hi); (try clear ho0)))
               (try simp only [Act.put, List.setIfInBounds_toArray, List.set_cons_zero, List.set_cons_succ])
               go_cut [137] (fun v137 wc => ∃ (kq : Nat) (x137_79 : Bool), v137 = .bool x137_79 ∧ Aside0 (tipstafflaw14_LimitParts.j3 kq t550 t551 t567 t571 x15_3 x16_3 x17_3 t581 t589 x137_79 = some r) ∧ Aside0 (kq ≤ k3) ∧ Aside0 (Kd.R k38 38 wc w.heap.size (fun _ => True) (.slice Ao13 t551.length co13) t551) ∧ Aside0 (Kd.V (Kd.int .i64) 3 wc w.heap.size (fun k_ => some k_ ≠ ((.slice Ao13 t551.length co13) : Value).ownBlock ∧ some k_ ≠ (u15 : Value).ownBlock ∧ some k_ ≠ (u16 : Value).ownBlock ∧ k_ ≠ gb558 ∧ k_ ≠ gb566) v568 t567) ∧ Aside0 (Kd.V (Kd.int .i64) 3 wc w.heap.size (fun k_ => some k_ ≠ ((.slice Ao13 t551.length co13) : Value).ownBlock ∧ some k_ ≠ (u15 : Value).ownBlock ∧ some k_ ≠ (u16 : Value).ownBlock ∧ k_ ≠ gb558 ∧ k_ ≠ gb566) v572 t571) ∧ Aside0 (Kd.R (Kd.int .i64) 3 wc w.heap.size (fun k_ => some k_ ≠ (u16 : Value).ownBlock) u15 x15_3) ∧ Aside0 (Kd.R (Kd.int .i64) 3 wc w.heap.size (fun k_ => some k_ ≠ (u15 : Value).ownBlock) u16 x16_3) ∧ Aside0 (Kd.V (Kd.int .i64) 3 wc w.heap.size (fun k_ => some k_ ≠ ((.slice Ao13 t551.length co13) : Value).ownBlock ∧ some k_ ≠ (u15 : Value).ownBlock ∧ some k_ ≠ (u16 : Value).ownBlock ∧ k_ ≠ gb558 ∧ k_ ≠ gb566) v582 t581) ∧ Aside0 (Kd.V (Kd.int .i64) 3 wc w.heap.size (fun k_ => some k_ ≠ ((.slice Ao13 t551.length co13) : Value).ownBlock ∧ some k_ ≠ (u15 : Value).ownBlock ∧ some k_ ≠ (u16 : Value).ownBlock ∧ k_ ≠ gb558 ∧ k_ ≠ gb566) v590 t589) ∧ Aside0 (wc.heap[gb558]? = some (.cells #[.int .i64 t555, .int .i64 t556] 27 (0, 0))) ∧ Aside0 (wc.heap[gb566]? = some (.cells #[.int .i64 t563, .int .i64 t564] 27 (0, 0))) ∧ Aside0 (Below w.heap.size w wc))
               case first =>
                have H := HC80.out
                clear HC80
                by_cases c85 : t584 = 0
                ·rw [if_pos c85] at H
                 have c85b0 : (t584 == 0) = true := beq_iff_eq.mpr c85
                 have c85b1 : (t584 != 0) = false := bne_eq_false_iff_eq.mpr c85
                 clear c85
                 (first | rw [c85b0] | (simp only [i64_w, i32_w]; rw [c85b0]) | skip)
                 by_cases c86 : t592 = 0
                 ·rw [if_pos c86] at H
                  have c86b0 : (t592 == 0) = true := beq_iff_eq.mpr c86
                  have c86b1 : (t592 != 0) = false := bne_eq_false_iff_eq.mpr c86
                  clear c86
                  by_cases c87 : (t581.length : Int) > 1
                  ·rw [if_pos c87] at H
                   have c87b0 : decide (1 < (t581.length : Int)) = true := decide_eq_true c87
                   have c87b1 : decide (1 < t581.length) = true := decide_eq_true (by omega)
                   clear c87
                   have H' := Aside0.mk H
                   clear H
                   obtain ⟨Ao88, co88, eo88⟩ := Kd.V_slice HO583.out
                   subst eo88
                   go_wp2
                   go_meet
                   case rel => exact ⟨_, (true), (by first | rfl | (simp; done) | (simp [*]; done)), H', ⟨by have := HJ9.out; have := HJ64.out; have := HK3.out; first | omega | exact Nat.le_refl _⟩, ⟨by (with_reducible repeat (first | apply Kd.R_alloc | apply Kd.R_drewN | apply Kd.R_drew)); exact HO_6.out⟩, ⟨by (with_reducible repeat (first | apply Kd.V_alloc | apply Kd.V_drewN | apply Kd.V_drew)); exact HO_11.out⟩, ⟨by (with_reducible repeat (first | apply Kd.V_alloc | apply Kd.V_drewN | apply Kd.V_drew)); exact HO_13.out⟩, ⟨by (with_reducible repeat (first | apply Kd.R_alloc | apply Kd.R_drewN | apply Kd.R_drew)); exact HO_15.out⟩, ⟨by (with_reducible repeat (first | apply Kd.R_alloc | apply Kd.R_drewN | apply Kd.R_drew)); exact HO_16.out⟩, ⟨by (with_reducible repeat (first | apply Kd.V_alloc | apply Kd.V_drewN | apply Kd.V_drew)); exact HO583.out⟩, ⟨by (with_reducible repeat (first | apply Kd.V_alloc | apply Kd.V_drewN | apply Kd.V_drew)); exact HO591.out⟩, ⟨by (with_reducible repeat (first | refine blk_drewN ?_ _ | refine blk_drew ?_ | refine blk_alloc ?_ _)); exact BK558.out⟩, ⟨by (with_reducible repeat (first | refine blk_drewN ?_ _ | refine blk_drew ?_ | refine blk_alloc ?_ _)); exact BK566.out⟩, ⟨by repeat (first | (with_reducible first | exact HB.out | apply below_alloc | apply pw_below_drewN | apply below_drew1 | refine below_set ?_ GE558.out | refine below_set ?_ GE566.out) | exact HB.out)⟩⟩
                  ·rw [if_neg c87] at H
                   have c87b0 : decide (1 < (t581.length : Int)) = false := decide_eq_false c87
                   have c87b1 : decide (1 < t581.length) = false := decide_eq_false (by omega)
                   clear c87
                   have H' := Aside0.mk H
                   clear H
                   obtain ⟨Ao89, co89, eo89⟩ := Kd.V_slice HO583.out
                   subst eo89
                   obtain ⟨Ao90, co90, eo90⟩ := Kd.V_slice HO591.out
                   subst eo90
                   go_wp2
                   go_meet
                   case rel => exact ⟨_, (decide ((t589.length : Int) > 1)), (by first | rfl | (simp; done) | (simp [*]; done)), H', ⟨by have := HJ9.out; have := HJ64.out; have := HK3.out; first | omega | exact Nat.le_refl _⟩, ⟨by (with_reducible repeat (first | apply Kd.R_alloc | apply Kd.R_drewN | apply Kd.R_drew)); exact HO_6.out⟩, ⟨by (with_reducible repeat (first | apply Kd.V_alloc | apply Kd.V_drewN | apply Kd.V_drew)); exact HO_11.out⟩, ⟨by (with_reducible repeat (first | apply Kd.V_alloc | apply Kd.V_drewN | apply Kd.V_drew)); exact HO_13.out⟩, ⟨by (with_reducible repeat (first | apply Kd.R_alloc | apply Kd.R_drewN | apply Kd.R_drew)); exact HO_15.out⟩, ⟨by (with_reducible repeat (first | apply Kd.R_alloc | apply Kd.R_drewN | apply Kd.R_drew)); exact HO_16.out⟩, ⟨by (with_reducible repeat (first | apply Kd.V_alloc | apply Kd.V_drewN | apply Kd.V_drew)); exact HO583.out⟩, ⟨by (with_reducible repeat (first | apply Kd.V_alloc | apply Kd.V_drewN | apply Kd.V_drew)); exact HO591.out⟩, ⟨by (with_reducible repeat (first | refine blk_drewN ?_ _ | refine blk_drew ?_ | refine blk_alloc ?_ _)); exact BK558.out⟩, ⟨by (with_reducible repeat (first | refine blk_drewN ?_ _ | refine blk_drew ?_ | refine blk_alloc ?_ _)); exact BK566.out⟩, ⟨by repeat (first | (with_reducible first | exact HB.out | apply below_alloc | apply pw_below_drewN | apply below_drew1 | refine below_set ?_ GE558.out | refine below_set ?_ GE566.out) | exact HB.out)⟩⟩
                 ·rw [if_neg c86] at H
                  have c86b0 : (t592 == 0) = false := beq_eq_false_iff_ne.mpr c86
                  have c86b1 : (t592 != 0) = true := bne_iff_ne.mpr c86
                  have H' := Aside0.mk H
                  clear H
                  go_wp2
                  go_meet
                  case rel => exact ⟨_, (true), (by first | rfl | (simp; done) | (simp [*]; done)), H', ⟨by have := HJ9.out; have := HJ64.out; have := HK3.out; first | omega | exact Nat.le_refl _⟩, ⟨by (with_reducible repeat (first | apply Kd.R_alloc | apply Kd.R_drewN | apply Kd.R_drew)); exact HO_6.out⟩, ⟨by (with_reducible repeat (first | apply Kd.V_alloc | apply Kd.V_drewN | apply Kd.V_drew)); exact HO_11.out⟩, ⟨by (with_reducible repeat (first | apply Kd.V_alloc | apply Kd.V_drewN | apply Kd.V_drew)); exact HO_13.out⟩, ⟨by (with_reducible repeat (first | apply Kd.R_alloc | apply Kd.R_drewN | apply Kd.R_drew)); exact HO_15.out⟩, ⟨by (with_reducible repeat (first | apply Kd.R_alloc | apply Kd.R_drewN | apply Kd.R_drew)); exact HO_16.out⟩, ⟨by (with_reducible repeat (first | apply Kd.V_alloc | apply Kd.V_drewN | apply Kd.V_drew)); exact HO583.out⟩, ⟨by (with_reducible repeat (first | apply Kd.V_alloc | apply Kd.V_drewN | apply Kd.V_drew)); exact HO591.out⟩, ⟨by (with_reducible repeat (first | refine blk_drewN ?_ _ | refine blk_drew ?_ | refine blk_alloc ?_ _)); exact BK558.out⟩, ⟨by (with_reducible repeat (first | refine blk_drewN ?_ _ | refine blk_drew ?_ | refine blk_alloc ?_ _)); exact BK566.out⟩, ⟨by repeat (first | (with_reducible first | exact HB.out | apply below_alloc | apply pw_below_drewN | apply below_drew1 | refine below_set ?_ GE558.out | refine below_set ?_ GE566.out) | exact HB.out)⟩⟩
                ·rw [if_neg c85] at H
                 have c85b0 : (t584 == 0) = false := beq_eq_false_iff_ne.mpr c85
                 have c85b1 : (t584 != 0) = true := bne_iff_ne.mpr c85
                 (first | rw [c85b0] | (simp only [i64_w, i32_w]; rw [c85b0]) | skip)
                 have H' := Aside0.mk H
                 clear H
                 go_wp2
                 go_meet
                 case rel => exact ⟨_, (true), (by first | rfl | (simp; done) | (simp [*]; done)), H', ⟨by have := HJ9.out; have := HJ64.out; have := HK3.out; first | omega | exact Nat.le_refl _⟩, ⟨by (with_reducible repeat (first | apply Kd.R_alloc | apply Kd.R_drewN | apply Kd.R_drew)); exact HO_6.out⟩, ⟨by (with_reducible repeat (first | apply Kd.V_alloc | apply Kd.V_drewN | apply Kd.V_drew)); exact HO_11.out⟩, ⟨by (with_reducible repeat (first | apply Kd.V_alloc | apply Kd.V_drewN | apply Kd.V_drew)); exact HO_13.out⟩, ⟨by (with_reducible repeat (first | apply Kd.R_alloc | apply Kd.R_drewN | apply Kd.R_drew)); exact HO_15.out⟩, ⟨by (with_reducible repeat (first | apply Kd.R_alloc | apply Kd.R_drewN | apply Kd.R_drew)); exact HO_16.out⟩, ⟨by (with_reducible repeat (first | apply Kd.V_alloc | apply Kd.V_drewN | apply Kd.V_drew)); exact HO583.out⟩, ⟨by (with_reducible repeat (first | apply Kd.V_alloc | apply Kd.V_drewN | apply Kd.V_drew)); exact HO591.out⟩, ⟨by (with_reducible repeat (first | refine blk_drewN ?_ _ | refine blk_drew ?_ | refine blk_alloc ?_ _)); exact BK558.out⟩, ⟨by (with_reducible repeat (first | refine blk_drewN ?_ _ | refine blk_drew ?_ | refine blk_alloc ?_ _)); exact BK566.out⟩, ⟨by repeat (first | (with_reducible first | exact HB.out | apply below_alloc | apply pw_below_drewN | apply below_drew1 | refine below_set ?_ GE558.out | refine below_set ?_ GE566.out) | exact HB.out)⟩⟩
               case rest =>
                clear HC80
                try clear c1
                try clear q1
                try clear c2
                try clear p2
                try clear c3
                try clear c4
                try clear c5
                try clear c6
                try clear p6
                try clear c7
                try clear c7b0
                try clear c7b1
                try clear c8
                try clear c8b0
                try clear c8b1
                try clear q8
                try clear c9
                try clear c13
                try clear q18
                try clear c21
                try clear c23
                try clear c23b0
                try clear c23b1
                try clear c24
                try clear c24b0
                try clear c24b1
                try clear c25
                try clear c25b0
                try clear c26
                try clear c26b0
                try clear c27
                try clear c27b0
                try clear c28
                try clear c31
                try clear c31b0
                try clear c31b1
                try clear c32
                try clear c35
                try clear c35b0
                try clear c36
                try clear c39
                try clear c42
                try clear c42b0
                try clear c42b1
                try clear c43
                try clear c46
                try clear c46b0
                try clear c47
                try clear c50
                try clear c52
                try clear c52b0
                try clear c52b1
                try clear c53
                try clear c56
                try clear c56b0
                try clear c57
                try clear c60
                try clear c62
                try clear p64
                try clear c68
                try clear c68b0
                try clear c68b1
                try clear c69
                try clear c70
                try clear c70b0
                try clear c72
                try clear c72b0
                try clear c72b1
                try clear c73
                try clear c73b0
                try clear c73b1
                try clear c74
                try clear c74b0
                try clear c74b1
                try clear c76
                try clear c76b0
                try clear c77
                try clear c77b0
                try clear c78
                try clear c78b0
                try clear c81
                try clear q81
                try clear c83
                try clear q83
                try clear c85
                try clear c85b0
                try clear c85b1
                try clear c86
                try clear c86b0
                try clear c86b1
                try clear c87
                try clear c87b0
                try clear c87b1
                try clear hcz16_0
                try clear hcz16_1
                try clear hcz22_0
                try clear hcz22_1
                try clear hcz29_0
                try clear hcz29_1
                try clear hcz30_0
                try clear hcz30_1
                try clear hcz33_0
                try clear hcz33_1
                try clear hcz34_0
                try clear hcz34_1
                try clear hcz37_0
                try clear hcz37_1
                try clear hcz38_0
                try clear hcz38_1
                try clear hcz40_0
                try clear hcz40_1
                try clear hcz41_0
                try clear hcz41_1
                try clear hcz44_0
                try clear hcz44_1
                try clear hcz45_0
                try clear hcz45_1
                try clear hcz48_0
                try clear hcz48_1
                try clear hcz49_0
                try clear hcz49_1
                try clear hcz51_0
                try clear hcz51_1
                try clear hcz54_0
                try clear hcz54_1
                try clear hcz55_0
                try clear hcz55_1
                try clear hcz58_0
                try clear hcz58_1
                try clear hcz59_0
                try clear hcz59_1
                try clear hcz61_0
                try clear hcz61_1
                try clear hfz16_0
                try clear hfz16_1
                try clear hfz22_0
                try clear hfz22_1
                try clear hfz29_0
                try clear hfz29_1
                try clear hfz30_0
                try clear hfz30_1
                try clear hfz33_0
                try clear hfz33_1
                try clear hfz34_0
                try clear hfz34_1
                try clear hfz37_0
                try clear hfz37_1
                try clear hfz38_0
                try clear hfz38_1
                try clear hfz40_0
                try clear hfz40_1
                try clear hfz41_0
                try clear hfz41_1
                try clear hfz44_0
                try clear hfz44_1
                try clear hfz45_0
                try clear hfz45_1
                try clear hfz48_0
                try clear hfz48_1
                try clear hfz49_0
                try clear hfz49_1
                try clear hfz51_0
                try clear hfz51_1
                try clear hfz54_0
                try clear hfz54_1
                try clear hfz55_0
                try clear hfz55_1
                try clear hfz58_0
                try clear hfz58_1
                try clear hfz59_0
                try clear hfz59_1
                try clear hfz61_0
                try clear hfz61_1
                try clear p2
                try clear p6
                try clear p64
                try clear q081
                try clear q083
                try clear q1
                try clear q18
                try clear q81
                try clear q83
                obtain ⟨kq, x137_79, rfl, HA, HJ79, HO_6, HO_11, HO_13, HO_15, HO_16, HO_18, HO_20, BK558, BK566, HB⟩ := hcut
                cases kq with
                | zero => exact absurd HA.out (by simp [tipstafflaw14_LimitParts.j3])
                | succ kj79 =>
                 have H := HA.out
                 clear HA
                 simp only [tipstafflaw14_LimitParts.j3] at H
                 by_cases c91 : x137_79 = true
                 ·subst c91
                  have H1 : (none) = some r := by rw [if_pos rfl] at H; exact H
                  clear H
                  have H := H1
                  clear H1
                  exact absurd H (by simp)
                 ·replace c91 := Bool.eq_false_iff.mpr c91
                  subst c91
                  have H1 := H
                  rw [if_neg (show ¬ (false = true) by decide)] at H1
                  clear H
                  have H := H1
                  clear H1
                  by_cases c92 : (t581.length : Int) = 1
                  ·rw [if_pos c92] at H
                   have c92b0 : ((t581.length : Int) == 1) = true := beq_iff_eq.mpr c92
                   have c92b1 : ((t581.length : Int) != 1) = false := bne_eq_false_iff_eq.mpr c92
                   clear c92
                   by_cases c93 : x15_3.length < 17592186044416
                   ·rw [if_pos c93] at H
                    have LMc93 := Aside0.mk c93
                    clear c93
                    obtain ⟨y593, hy593⟩ : ∃ y_ : List Int, y_ = (x15_3 ++ [x17_3]) := ⟨_, rfl⟩
                    replace H : (if (t589.length : Int) = 1 then (if x16_3.length < 17592186044416 then (tipstafflaw14_LimitParts.l0 kj79 t550 t551 t567 t571 y593 (x16_3 ++ [x17_3]) (wrap64 (x17_3 + 1))) else (none)) else (tipstafflaw14_LimitParts.l0 kj79 t550 t551 t567 t571 y593 x16_3 (wrap64 (x17_3 + 1)))) = some r := by first | (rw [hy593]; with_reducible exact H) | (have H2_ := (Option.bind_some _ _).symm.trans H; rw [hy593]; with_reducible exact H2_) | (have H2_ := (Option.bind_some _ _).symm.trans H; with_reducible exact H2_) | with_reducible exact H | (rw [hy593]; exact H) | exact H
                    have Ny593 := Aside0.mk hy593
                    clear hy593
                    by_cases c94 : (t589.length : Int) = 1
                    ·rw [if_pos c94] at H
                     have c94b0 : ((t589.length : Int) == 1) = true := beq_iff_eq.mpr c94
                     have c94b1 : ((t589.length : Int) != 1) = false := bne_eq_false_iff_eq.mpr c94
                     clear c94
                     by_cases c95 : x16_3.length < 17592186044416
                     ·rw [if_pos c95] at H
                      have LMc95 := Aside0.mk c95
                      clear c95
                      obtain ⟨y596, hy596⟩ : ∃ y_ : List Int, y_ = (x16_3 ++ [x17_3]) := ⟨_, rfl⟩
                      replace H : (tipstafflaw14_LimitParts.l0 kj79 t550 t551 t567 t571 y593 y596 (wrap64 (x17_3 + 1))) = some r := by first | (rw [hy596]; with_reducible exact H) | (have H2_ := (Option.bind_some _ _).symm.trans H; rw [hy596]; with_reducible exact H2_) | (have H2_ := (Option.bind_some _ _).symm.trans H; with_reducible exact H2_) | with_reducible exact H | (rw [hy596]; exact H) | exact H
                      have Ny596 := Aside0.mk hy596
                      clear hy596
                      have H' := Aside0.mk H
                      clear H
                      obtain ⟨Ao96, co96, eo96⟩ := Kd.V_slice HO_18.out
                      subst eo96
                      go_wp2_with (first | ((with_reducible refine gate_builtin (b := .append) (xs := #[.tmp 141, .tmp 143]) rfl ?_); (try (refine gate_guard (by rfl) ?_; dsimp only)); at_builtin; refine Kd.R_append (Kd.int .i64) (w0 := w) w.heap.size rfl (.tmp 141) (.tmp 143) 31 3 (.int .i64 0) 8 rfl Try.underlying31 info3 rfl (by decide) (by omega) u15 x15_3 x17_3 [.int .i64 x17_3] (fun k_ => some k_ ≠ (u16 : Value).ownBlock) (fun _ => False) rfl rfl ?aP (fun _ hk => hk.elim) ?aF ?aO ?aB ?aS ?aL ?_; (case aP => exact rfl); (case aB => exact (by repeat (first | (with_reducible first | exact HB.out | apply below_alloc | apply pw_below_drewN | apply below_drew1 | refine below_set ?_ GE558.out | refine below_set ?_ GE566.out) | exact HB.out))); (case aF => exact (fun k_ hk => Kd.fresh' (Kd.R_lt (by (with_reducible repeat (first | apply Kd.R_alloc | apply Kd.R_drewN | apply Kd.R_drew)); exact HO_16.out)) k_ hk)); (case aO => exact (by (with_reducible repeat (first | apply Kd.R_alloc | apply Kd.R_drewN | apply Kd.R_drew)); exact HO_15.out)); (case aS => exact (below_size (by repeat (first | (with_reducible first | exact HB.out | apply below_alloc | apply pw_below_drewN | apply below_drew1 | refine below_set ?_ GE558.out | refine below_set ?_ GE566.out) | exact HB.out)))); (case aL => have := LMc93.out; omega); intro v594 w97 ho hb hg hat; rw [← Ny593.out] at ho; have n0_ := Aside0.mk (Kd.R_over' (by (with_reducible repeat (first | apply Kd.R_alloc | apply Kd.R_drewN | apply Kd.R_drew)); exact HO_6.out) (Kd.R_typed (by (with_reducible repeat (first | apply Kd.R_alloc | apply Kd.R_drewN | apply Kd.R_drew)); exact HO_15.out)) (by decide) hg); have n1_ := Aside0.mk (Kd.V_afterv (ok := (fun k_ => some k_ ≠ (.slice Ao13 t551.length co13 : Value).ownBlock ∧ some k_ ≠ (u16 : Value).ownBlock ∧ k_ ≠ gb558 ∧ k_ ≠ gb566)) (by (with_reducible repeat (first | apply Kd.V_alloc | apply Kd.V_drewN | apply Kd.V_drew)); exact Kd.V_mono HO_11.out (fun _ hk => ⟨⟨hk.1, ⟨hk.2.2.1, ⟨hk.2.2.2.1, hk.2.2.2.2⟩⟩⟩, hk.2.1⟩)) hg hat); have n2_ := Aside0.mk (Kd.V_afterv (ok := (fun k_ => some k_ ≠ (.slice Ao13 t551.length co13 : Value).ownBlock ∧ some k_ ≠ (u16 : Value).ownBlock ∧ k_ ≠ gb558 ∧ k_ ≠ gb566)) (by (with_reducible repeat (first | apply Kd.V_alloc | apply Kd.V_drewN | apply Kd.V_drew)); exact Kd.V_mono HO_13.out (fun _ hk => ⟨⟨hk.1, ⟨hk.2.2.1, ⟨hk.2.2.2.1, hk.2.2.2.2⟩⟩⟩, hk.2.1⟩)) hg hat); have n3_ := Aside0.mk (Kd.R_after (ok := (fun _ => True)) (by (with_reducible repeat (first | apply Kd.R_alloc | apply Kd.R_drewN | apply Kd.R_drew)); exact Kd.R_mono HO_16.out (fun _ hk => ⟨trivial, hk⟩)) hg hat); have n4_ := Aside0.mk (Kd.V_afterv (ok := (fun k_ => some k_ ≠ (.slice Ao13 t551.length co13 : Value).ownBlock ∧ some k_ ≠ (u16 : Value).ownBlock ∧ k_ ≠ gb558 ∧ k_ ≠ gb566)) (by (with_reducible repeat (first | apply Kd.V_alloc | apply Kd.V_drewN | apply Kd.V_drew)); exact Kd.V_mono HO_18.out (fun _ hk => ⟨⟨hk.1, ⟨hk.2.2.1, ⟨hk.2.2.2.1, hk.2.2.2.2⟩⟩⟩, hk.2.1⟩)) hg hat); have n5_ := Aside0.mk (Kd.V_afterv (ok := (fun k_ => some k_ ≠ (.slice Ao13 t551.length co13 : Value).ownBlock ∧ some k_ ≠ (u16 : Value).ownBlock ∧ k_ ≠ gb558 ∧ k_ ≠ gb566)) (by (with_reducible repeat (first | apply Kd.V_alloc | apply Kd.V_drewN | apply Kd.V_drew)); exact Kd.V_mono HO_20.out (fun _ hk => ⟨⟨hk.1, ⟨hk.2.2.1, ⟨hk.2.2.2.1, hk.2.2.2.2⟩⟩⟩, hk.2.1⟩)) hg hat); have n6_ := Aside0.mk (blk_grown (g := gb558) (o := .cells #[.int .i64 t555, .int .i64 t556] 27 (0, 0)) (by (with_reducible repeat (first | refine blk_drewN ?_ _ | refine blk_drew ?_ | refine blk_alloc ?_ _)); exact BK558.out) hg (Kd.R_ne HO_15.out BK558.out (by decide))); have n7_ := Aside0.mk (blk_grown (g := gb566) (o := .cells #[.int .i64 t563, .int .i64 t564] 27 (0, 0)) (by (with_reducible repeat (first | refine blk_drewN ?_ _ | refine blk_drew ?_ | refine blk_alloc ?_ _)); exact BK566.out) hg (Kd.R_ne HO_15.out BK566.out (by decide))); have n8_ := Aside0.mk (hb); have n11_ := Aside0.mk (ho); clear HO_6; clear HO_11; clear HO_13; clear HO_16; clear HO_18; clear HO_20; clear BK558; clear BK566; clear HB; clear HO_15; have HO_6 := n0_; have HO_11 := n1_; have HO_13 := n2_; have HO_16 := n3_; have HO_18 := n4_; have HO_20 := n5_; have BK558 := n6_; have BK566 := n7_; have HB := n8_; have HO595 := n11_; clear n0_ n1_ n2_ n3_ n4_ n5_ n6_ n7_ n8_ n11_; clear ho hb hg hat; obtain ⟨Ao98, co98, eo98⟩ := Kd.V_slice HO_20.out; subst eo98) | ((with_reducible refine gate_builtin (b := .append) (xs := #[.tmp 148, .tmp 150]) rfl ?_); (try (refine gate_guard (by rfl) ?_; dsimp only)); at_builtin; refine Kd.R_append (Kd.int .i64) (w0 := w) w.heap.size rfl (.tmp 148) (.tmp 150) 31 3 (.int .i64 0) 8 rfl Try.underlying31 info3 rfl (by decide) (by omega) u16 x16_3 x17_3 [.int .i64 x17_3] (fun k_ => some k_ ≠ (v594 : Value).ownBlock) (fun _ => False) rfl rfl ?aP (fun _ hk => hk.elim) ?aF ?aO ?aB ?aS ?aL ?_; (case aP => exact rfl); (case aB => exact (by repeat (first | (with_reducible first | exact HB.out | apply below_alloc | apply pw_below_drewN | apply below_drew1 | refine below_set ?_ GE558.out | refine below_set ?_ GE566.out) | exact HB.out))); (case aF => exact (fun k_ hk => Kd.fresh' (Kd.R_lt (by (with_reducible repeat (first | apply Kd.R_alloc | apply Kd.R_drewN | apply Kd.R_drew)); exact HO595.out)) k_ hk)); (case aO => exact (by (with_reducible repeat (first | apply Kd.R_alloc | apply Kd.R_drewN | apply Kd.R_drew)); exact Kd.R_mono HO_16.out (fun _ hk => hk.2))); (case aS => exact (below_size (by repeat (first | (with_reducible first | exact HB.out | apply below_alloc | apply pw_below_drewN | apply below_drew1 | refine below_set ?_ GE558.out | refine below_set ?_ GE566.out) | exact HB.out)))); (case aL => have := LMc95.out; omega); intro v597 w99 ho hb hg hat; rw [← Ny596.out] at ho; have n0_ := Aside0.mk (Kd.R_over' (by (with_reducible repeat (first | apply Kd.R_alloc | apply Kd.R_drewN | apply Kd.R_drew)); exact HO_6.out) (Kd.R_typed (by (with_reducible repeat (first | apply Kd.R_alloc | apply Kd.R_drewN | apply Kd.R_drew)); exact HO_16.out)) (by decide) hg); have n1_ := Aside0.mk (Kd.V_afterv (ok := (fun k_ => some k_ ≠ (.slice Ao13 t551.length co13 : Value).ownBlock ∧ some k_ ≠ (v594 : Value).ownBlock ∧ k_ ≠ gb558 ∧ k_ ≠ gb566)) (by (with_reducible repeat (first | apply Kd.V_alloc | apply Kd.V_drewN | apply Kd.V_drew)); exact Kd.V_mono HO_11.out (fun _ hk => ⟨⟨hk.1.1, ⟨hk.2, ⟨hk.1.2.2.1, hk.1.2.2.2⟩⟩⟩, hk.1.2.1⟩)) hg hat); have n2_ := Aside0.mk (Kd.V_afterv (ok := (fun k_ => some k_ ≠ (.slice Ao13 t551.length co13 : Value).ownBlock ∧ some k_ ≠ (v594 : Value).ownBlock ∧ k_ ≠ gb558 ∧ k_ ≠ gb566)) (by (with_reducible repeat (first | apply Kd.V_alloc | apply Kd.V_drewN | apply Kd.V_drew)); exact Kd.V_mono HO_13.out (fun _ hk => ⟨⟨hk.1.1, ⟨hk.2, ⟨hk.1.2.2.1, hk.1.2.2.2⟩⟩⟩, hk.1.2.1⟩)) hg hat); have n3_ := Aside0.mk (Kd.V_afterv (ok := (fun k_ => some k_ ≠ (.slice Ao13 t551.length co13 : Value).ownBlock ∧ some k_ ≠ (v594 : Value).ownBlock ∧ k_ ≠ gb558 ∧ k_ ≠ gb566)) (by (with_reducible repeat (first | apply Kd.V_alloc | apply Kd.V_drewN | apply Kd.V_drew)); exact Kd.V_mono HO_18.out (fun _ hk => ⟨⟨hk.1.1, ⟨hk.2, ⟨hk.1.2.2.1, hk.1.2.2.2⟩⟩⟩, hk.1.2.1⟩)) hg hat); have n4_ := Aside0.mk (Kd.V_afterv (ok := (fun k_ => some k_ ≠ (.slice Ao13 t551.length co13 : Value).ownBlock ∧ some k_ ≠ (v594 : Value).ownBlock ∧ k_ ≠ gb558 ∧ k_ ≠ gb566)) (by (with_reducible repeat (first | apply Kd.V_alloc | apply Kd.V_drewN | apply Kd.V_drew)); exact Kd.V_mono HO_20.out (fun _ hk => ⟨⟨hk.1.1, ⟨hk.2, ⟨hk.1.2.2.1, hk.1.2.2.2⟩⟩⟩, hk.1.2.1⟩)) hg hat); have n5_ := Aside0.mk (blk_grown (g := gb558) (o := .cells #[.int .i64 t555, .int .i64 t556] 27 (0, 0)) (by (with_reducible repeat (first | refine blk_drewN ?_ _ | refine blk_drew ?_ | refine blk_alloc ?_ _)); exact BK558.out) hg (Kd.R_ne HO_16.out BK558.out (by decide))); have n6_ := Aside0.mk (blk_grown (g := gb566) (o := .cells #[.int .i64 t563, .int .i64 t564] 27 (0, 0)) (by (with_reducible repeat (first | refine blk_drewN ?_ _ | refine blk_drew ?_ | refine blk_alloc ?_ _)); exact BK566.out) hg (Kd.R_ne HO_16.out BK566.out (by decide))); have n7_ := Aside0.mk (Kd.R_after (ok := (fun _ => True)) (by (with_reducible repeat (first | apply Kd.R_alloc | apply Kd.R_drewN | apply Kd.R_drew)); exact Kd.R_mono HO595.out (fun _ hk => ⟨trivial, hk⟩)) hg hat); have n8_ := Aside0.mk (hb); have n11_ := Aside0.mk (ho); clear HO_6; clear HO_11; clear HO_13; clear HO_18; clear HO_20; clear BK558; clear BK566; clear HO595; clear HB; clear HO_16; have HO_6 := n0_; have HO_11 := n1_; have HO_13 := n2_; have HO_18 := n3_; have HO_20 := n4_; have BK558 := n5_; have BK566 := n6_; have HO595 := n7_; have HB := n8_; have HO598 := n11_; clear n0_ n1_ n2_ n3_ n4_ n5_ n6_ n7_ n8_ n11_; clear ho hb hg hat))
                      go_roundg kj79
                      case measure => have := HJ9.out; have := HJ64.out; have := HK3.out; have := HJ79.out; omega
                      case rel => exact ⟨(y593), (y596), (wrap64 (x17_3 + 1)), (by first | rfl | (simp; done) | (simp [*]; done)), H', ⟨by have := HJ9.out; have := HJ64.out; have := HK3.out; have := HJ79.out; omega⟩, ⟨by (with_reducible repeat (first | apply Kd.R_alloc | apply Kd.R_drewN | apply Kd.R_drew)); exact HO_6.out⟩, ⟨by (with_reducible repeat (first | apply Kd.V_alloc | apply Kd.V_drewN | apply Kd.V_drew)); exact Kd.V_mono HO_11.out (fun _ hk => ⟨hk.1.1, ⟨hk.1.2.1, ⟨hk.2, ⟨hk.1.2.2.1, hk.1.2.2.2⟩⟩⟩⟩)⟩, ⟨by (with_reducible repeat (first | apply Kd.V_alloc | apply Kd.V_drewN | apply Kd.V_drew)); exact Kd.V_mono HO_13.out (fun _ hk => ⟨hk.1.1, ⟨hk.1.2.1, ⟨hk.2, ⟨hk.1.2.2.1, hk.1.2.2.2⟩⟩⟩⟩)⟩, ⟨by (with_reducible repeat (first | apply Kd.R_alloc | apply Kd.R_drewN | apply Kd.R_drew)); exact Kd.R_mono HO595.out (fun _ hk => hk.2)⟩, ⟨by (with_reducible repeat (first | apply Kd.R_alloc | apply Kd.R_drewN | apply Kd.R_drew)); exact HO598.out⟩, ⟨by (with_reducible repeat (first | refine blk_drewN ?_ _ | refine blk_drew ?_ | refine blk_alloc ?_ _)); exact BK558.out⟩, ⟨by (with_reducible repeat (first | refine blk_drewN ?_ _ | refine blk_drew ?_ | refine blk_alloc ?_ _)); exact BK566.out⟩, ⟨by repeat (first | (with_reducible first | exact HB.out | apply below_alloc | apply pw_below_drewN | apply below_drew1 | refine below_set ?_ GE558.out | refine below_set ?_ GE566.out) | exact HB.out)⟩⟩
                     ·rw [if_neg c95] at H
                      exact absurd H (by simp)
                    ·rw [if_neg c94] at H
                     have c94b0 : ((t589.length : Int) == 1) = false := beq_eq_false_iff_ne.mpr c94
                     have c94b1 : ((t589.length : Int) != 1) = true := bne_iff_ne.mpr c94
                     have H' := Aside0.mk H
                     clear H
                     obtain ⟨Ao100, co100, eo100⟩ := Kd.V_slice HO_18.out
                     subst eo100
                     go_wp2_with (first | ((with_reducible refine gate_builtin (b := .append) (xs := #[.tmp 141, .tmp 143]) rfl ?_); (try (refine gate_guard (by rfl) ?_; dsimp only)); at_builtin; refine Kd.R_append (Kd.int .i64) (w0 := w) w.heap.size rfl (.tmp 141) (.tmp 143) 31 3 (.int .i64 0) 8 rfl Try.underlying31 info3 rfl (by decide) (by omega) u15 x15_3 x17_3 [.int .i64 x17_3] (fun k_ => some k_ ≠ (u16 : Value).ownBlock) (fun _ => False) rfl rfl ?aP (fun _ hk => hk.elim) ?aF ?aO ?aB ?aS ?aL ?_; (case aP => exact rfl); (case aB => exact (by repeat (first | (with_reducible first | exact HB.out | apply below_alloc | apply pw_below_drewN | apply below_drew1 | refine below_set ?_ GE558.out | refine below_set ?_ GE566.out) | exact HB.out))); (case aF => exact (fun k_ hk => Kd.fresh' (Kd.R_lt (by (with_reducible repeat (first | apply Kd.R_alloc | apply Kd.R_drewN | apply Kd.R_drew)); exact HO_16.out)) k_ hk)); (case aO => exact (by (with_reducible repeat (first | apply Kd.R_alloc | apply Kd.R_drewN | apply Kd.R_drew)); exact HO_15.out)); (case aS => exact (below_size (by repeat (first | (with_reducible first | exact HB.out | apply below_alloc | apply pw_below_drewN | apply below_drew1 | refine below_set ?_ GE558.out | refine below_set ?_ GE566.out) | exact HB.out)))); (case aL => have := LMc93.out; omega); intro v594 w101 ho hb hg hat; rw [← Ny593.out] at ho; have n0_ := Aside0.mk (Kd.R_over' (by (with_reducible repeat (first | apply Kd.R_alloc | apply Kd.R_drewN | apply Kd.R_drew)); exact HO_6.out) (Kd.R_typed (by (with_reducible repeat (first | apply Kd.R_alloc | apply Kd.R_drewN | apply Kd.R_drew)); exact HO_15.out)) (by decide) hg); have n1_ := Aside0.mk (Kd.V_afterv (ok := (fun k_ => some k_ ≠ (.slice Ao13 t551.length co13 : Value).ownBlock ∧ some k_ ≠ (u16 : Value).ownBlock ∧ k_ ≠ gb558 ∧ k_ ≠ gb566)) (by (with_reducible repeat (first | apply Kd.V_alloc | apply Kd.V_drewN | apply Kd.V_drew)); exact Kd.V_mono HO_11.out (fun _ hk => ⟨⟨hk.1, ⟨hk.2.2.1, ⟨hk.2.2.2.1, hk.2.2.2.2⟩⟩⟩, hk.2.1⟩)) hg hat); have n2_ := Aside0.mk (Kd.V_afterv (ok := (fun k_ => some k_ ≠ (.slice Ao13 t551.length co13 : Value).ownBlock ∧ some k_ ≠ (u16 : Value).ownBlock ∧ k_ ≠ gb558 ∧ k_ ≠ gb566)) (by (with_reducible repeat (first | apply Kd.V_alloc | apply Kd.V_drewN | apply Kd.V_drew)); exact Kd.V_mono HO_13.out (fun _ hk => ⟨⟨hk.1, ⟨hk.2.2.1, ⟨hk.2.2.2.1, hk.2.2.2.2⟩⟩⟩, hk.2.1⟩)) hg hat); have n3_ := Aside0.mk (Kd.R_after (ok := (fun _ => True)) (by (with_reducible repeat (first | apply Kd.R_alloc | apply Kd.R_drewN | apply Kd.R_drew)); exact Kd.R_mono HO_16.out (fun _ hk => ⟨trivial, hk⟩)) hg hat); have n4_ := Aside0.mk (Kd.V_afterv (ok := (fun k_ => some k_ ≠ (.slice Ao13 t551.length co13 : Value).ownBlock ∧ some k_ ≠ (u16 : Value).ownBlock ∧ k_ ≠ gb558 ∧ k_ ≠ gb566)) (by (with_reducible repeat (first | apply Kd.V_alloc | apply Kd.V_drewN | apply Kd.V_drew)); exact Kd.V_mono HO_18.out (fun _ hk => ⟨⟨hk.1, ⟨hk.2.2.1, ⟨hk.2.2.2.1, hk.2.2.2.2⟩⟩⟩, hk.2.1⟩)) hg hat); have n5_ := Aside0.mk (Kd.V_afterv (ok := (fun k_ => some k_ ≠ (.slice Ao13 t551.length co13 : Value).ownBlock ∧ some k_ ≠ (u16 : Value).ownBlock ∧ k_ ≠ gb558 ∧ k_ ≠ gb566)) (by (with_reducible repeat (first | apply Kd.V_alloc | apply Kd.V_drewN | apply Kd.V_drew)); exact Kd.V_mono HO_20.out (fun _ hk => ⟨⟨hk.1, ⟨hk.2.2.1, ⟨hk.2.2.2.1, hk.2.2.2.2⟩⟩⟩, hk.2.1⟩)) hg hat); have n6_ := Aside0.mk (blk_grown (g := gb558) (o := .cells #[.int .i64 t555, .int .i64 t556] 27 (0, 0)) (by (with_reducible repeat (first | refine blk_drewN ?_ _ | refine blk_drew ?_ | refine blk_alloc ?_ _)); exact BK558.out) hg (Kd.R_ne HO_15.out BK558.out (by decide))); have n7_ := Aside0.mk (blk_grown (g := gb566) (o := .cells #[.int .i64 t563, .int .i64 t564] 27 (0, 0)) (by (with_reducible repeat (first | refine blk_drewN ?_ _ | refine blk_drew ?_ | refine blk_alloc ?_ _)); exact BK566.out) hg (Kd.R_ne HO_15.out BK566.out (by decide))); have n8_ := Aside0.mk (hb); have n11_ := Aside0.mk (ho); clear HO_6; clear HO_11; clear HO_13; clear HO_16; clear HO_18; clear HO_20; clear BK558; clear BK566; clear HB; clear HO_15; have HO_6 := n0_; have HO_11 := n1_; have HO_13 := n2_; have HO_16 := n3_; have HO_18 := n4_; have HO_20 := n5_; have BK558 := n6_; have BK566 := n7_; have HB := n8_; have HO595 := n11_; clear n0_ n1_ n2_ n3_ n4_ n5_ n6_ n7_ n8_ n11_; clear ho hb hg hat; obtain ⟨Ao102, co102, eo102⟩ := Kd.V_slice HO_20.out; subst eo102))
                     go_roundg kj79
                     case measure => have := HJ9.out; have := HJ64.out; have := HK3.out; have := HJ79.out; omega
                     case rel => exact ⟨(y593), (x16_3), (wrap64 (x17_3 + 1)), (by first | rfl | (simp; done) | (simp [*]; done)), H', ⟨by have := HJ9.out; have := HJ64.out; have := HK3.out; have := HJ79.out; omega⟩, ⟨by (with_reducible repeat (first | apply Kd.R_alloc | apply Kd.R_drewN | apply Kd.R_drew)); exact HO_6.out⟩, ⟨by (with_reducible repeat (first | apply Kd.V_alloc | apply Kd.V_drewN | apply Kd.V_drew)); exact Kd.V_mono HO_11.out (fun _ hk => ⟨hk.1.1, ⟨hk.2, ⟨hk.1.2.1, ⟨hk.1.2.2.1, hk.1.2.2.2⟩⟩⟩⟩)⟩, ⟨by (with_reducible repeat (first | apply Kd.V_alloc | apply Kd.V_drewN | apply Kd.V_drew)); exact Kd.V_mono HO_13.out (fun _ hk => ⟨hk.1.1, ⟨hk.2, ⟨hk.1.2.1, ⟨hk.1.2.2.1, hk.1.2.2.2⟩⟩⟩⟩)⟩, ⟨by (with_reducible repeat (first | apply Kd.R_alloc | apply Kd.R_drewN | apply Kd.R_drew)); exact HO595.out⟩, ⟨by (with_reducible repeat (first | apply Kd.R_alloc | apply Kd.R_drewN | apply Kd.R_drew)); exact Kd.R_mono HO_16.out (fun _ hk => hk.2)⟩, ⟨by (with_reducible repeat (first | refine blk_drewN ?_ _ | refine blk_drew ?_ | refine blk_alloc ?_ _)); exact BK558.out⟩, ⟨by (with_reducible repeat (first | refine blk_drewN ?_ _ | refine blk_drew ?_ | refine blk_alloc ?_ _)); exact BK566.out⟩, ⟨by repeat (first | (with_reducible first | exact HB.out | apply below_alloc | apply pw_below_drewN | apply below_drew1 | refine below_set ?_ GE558.out | refine below_set ?_ GE566.out) | exact HB.out)⟩⟩
                   ·rw [if_neg c93] at H
                    exact absurd H (by simp)
                  ·rw [if_neg c92] at H
                   have c92b0 : ((t581.length : Int) == 1) = false := beq_eq_false_iff_ne.mpr c92
                   have c92b1 : ((t581.length : Int) != 1) = true := bne_iff_ne.mpr c92
                   by_cases c103 : (t589.length : Int) = 1
                   ·rw [if_pos c103] at H
                    have c103b0 : ((t589.length : Int) == 1) = true := beq_iff_eq.mpr c103
                    have c103b1 : ((t589.length : Int) != 1) = false := bne_eq_false_iff_eq.mpr c103
                    clear c103
                    by_cases c104 : x16_3.length < 17592186044416
                    ·rw [if_pos c104] at H
                     have LMc104 := Aside0.mk c104
                     clear c104
                     obtain ⟨y599, hy599⟩ : ∃ y_ : List Int, y_ = (x16_3 ++ [x17_3]) := ⟨_, rfl⟩
                     replace H : (tipstafflaw14_LimitParts.l0 kj79 t550 t551 t567 t571 x15_3 y599 (wrap64 (x17_3 + 1))) = some r := by first | (rw [hy599]; with_reducible exact H) | (have H2_ := (Option.bind_some _ _).symm.trans H; rw [hy599]; with_reducible exact H2_) | (have H2_ := (Option.bind_some _ _).symm.trans H; with_reducible exact H2_) | with_reducible exact H | (rw [hy599]; exact H) | exact H
                     have Ny599 := Aside0.mk hy599
                     clear hy599
                     have H' := Aside0.mk H
                     clear H
                     obtain ⟨Ao105, co105, eo105⟩ := Kd.V_slice HO_18.out
                     subst eo105
                     obtain ⟨Ao106, co106, eo106⟩ := Kd.V_slice HO_20.out
                     subst eo106
                     go_wp2_with (first | ((with_reducible refine gate_builtin (b := .append) (xs := #[.tmp 148, .tmp 150]) rfl ?_); (try (refine gate_guard (by rfl) ?_; dsimp only)); at_builtin; refine Kd.R_append (Kd.int .i64) (w0 := w) w.heap.size rfl (.tmp 148) (.tmp 150) 31 3 (.int .i64 0) 8 rfl Try.underlying31 info3 rfl (by decide) (by omega) u16 x16_3 x17_3 [.int .i64 x17_3] (fun k_ => some k_ ≠ (u15 : Value).ownBlock) (fun _ => False) rfl rfl ?aP (fun _ hk => hk.elim) ?aF ?aO ?aB ?aS ?aL ?_; (case aP => exact rfl); (case aB => exact (by repeat (first | (with_reducible first | exact HB.out | apply below_alloc | apply pw_below_drewN | apply below_drew1 | refine below_set ?_ GE558.out | refine below_set ?_ GE566.out) | exact HB.out))); (case aF => exact (fun k_ hk => Kd.fresh' (Kd.R_lt (by (with_reducible repeat (first | apply Kd.R_alloc | apply Kd.R_drewN | apply Kd.R_drew)); exact HO_15.out)) k_ hk)); (case aO => exact (by (with_reducible repeat (first | apply Kd.R_alloc | apply Kd.R_drewN | apply Kd.R_drew)); exact HO_16.out)); (case aS => exact (below_size (by repeat (first | (with_reducible first | exact HB.out | apply below_alloc | apply pw_below_drewN | apply below_drew1 | refine below_set ?_ GE558.out | refine below_set ?_ GE566.out) | exact HB.out)))); (case aL => have := LMc104.out; omega); intro v600 w107 ho hb hg hat; rw [← Ny599.out] at ho; have n0_ := Aside0.mk (Kd.R_over' (by (with_reducible repeat (first | apply Kd.R_alloc | apply Kd.R_drewN | apply Kd.R_drew)); exact HO_6.out) (Kd.R_typed (by (with_reducible repeat (first | apply Kd.R_alloc | apply Kd.R_drewN | apply Kd.R_drew)); exact HO_16.out)) (by decide) hg); have n1_ := Aside0.mk (Kd.V_afterv (ok := (fun k_ => some k_ ≠ (.slice Ao13 t551.length co13 : Value).ownBlock ∧ some k_ ≠ (u15 : Value).ownBlock ∧ k_ ≠ gb558 ∧ k_ ≠ gb566)) (by (with_reducible repeat (first | apply Kd.V_alloc | apply Kd.V_drewN | apply Kd.V_drew)); exact Kd.V_mono HO_11.out (fun _ hk => ⟨⟨hk.1, ⟨hk.2.1, ⟨hk.2.2.2.1, hk.2.2.2.2⟩⟩⟩, hk.2.2.1⟩)) hg hat); have n2_ := Aside0.mk (Kd.V_afterv (ok := (fun k_ => some k_ ≠ (.slice Ao13 t551.length co13 : Value).ownBlock ∧ some k_ ≠ (u15 : Value).ownBlock ∧ k_ ≠ gb558 ∧ k_ ≠ gb566)) (by (with_reducible repeat (first | apply Kd.V_alloc | apply Kd.V_drewN | apply Kd.V_drew)); exact Kd.V_mono HO_13.out (fun _ hk => ⟨⟨hk.1, ⟨hk.2.1, ⟨hk.2.2.2.1, hk.2.2.2.2⟩⟩⟩, hk.2.2.1⟩)) hg hat); have n3_ := Aside0.mk (Kd.R_after (ok := (fun _ => True)) (by (with_reducible repeat (first | apply Kd.R_alloc | apply Kd.R_drewN | apply Kd.R_drew)); exact Kd.R_mono HO_15.out (fun _ hk => ⟨trivial, hk⟩)) hg hat); have n4_ := Aside0.mk (Kd.V_afterv (ok := (fun k_ => some k_ ≠ (.slice Ao13 t551.length co13 : Value).ownBlock ∧ some k_ ≠ (u15 : Value).ownBlock ∧ k_ ≠ gb558 ∧ k_ ≠ gb566)) (by (with_reducible repeat (first | apply Kd.V_alloc | apply Kd.V_drewN | apply Kd.V_drew)); exact Kd.V_mono HO_18.out (fun _ hk => ⟨⟨hk.1, ⟨hk.2.1, ⟨hk.2.2.2.1, hk.2.2.2.2⟩⟩⟩, hk.2.2.1⟩)) hg hat); have n5_ := Aside0.mk (Kd.V_afterv (ok := (fun k_ => some k_ ≠ (.slice Ao13 t551.length co13 : Value).ownBlock ∧ some k_ ≠ (u15 : Value).ownBlock ∧ k_ ≠ gb558 ∧ k_ ≠ gb566)) (by (with_reducible repeat (first | apply Kd.V_alloc | apply Kd.V_drewN | apply Kd.V_drew)); exact Kd.V_mono HO_20.out (fun _ hk => ⟨⟨hk.1, ⟨hk.2.1, ⟨hk.2.2.2.1, hk.2.2.2.2⟩⟩⟩, hk.2.2.1⟩)) hg hat); have n6_ := Aside0.mk (blk_grown (g := gb558) (o := .cells #[.int .i64 t555, .int .i64 t556] 27 (0, 0)) (by (with_reducible repeat (first | refine blk_drewN ?_ _ | refine blk_drew ?_ | refine blk_alloc ?_ _)); exact BK558.out) hg (Kd.R_ne HO_16.out BK558.out (by decide))); have n7_ := Aside0.mk (blk_grown (g := gb566) (o := .cells #[.int .i64 t563, .int .i64 t564] 27 (0, 0)) (by (with_reducible repeat (first | refine blk_drewN ?_ _ | refine blk_drew ?_ | refine blk_alloc ?_ _)); exact BK566.out) hg (Kd.R_ne HO_16.out BK566.out (by decide))); have n8_ := Aside0.mk (hb); have n11_ := Aside0.mk (ho); clear HO_6; clear HO_11; clear HO_13; clear HO_15; clear HO_18; clear HO_20; clear BK558; clear BK566; clear HB; clear HO_16; have HO_6 := n0_; have HO_11 := n1_; have HO_13 := n2_; have HO_15 := n3_; have HO_18 := n4_; have HO_20 := n5_; have BK558 := n6_; have BK566 := n7_; have HB := n8_; have HO601 := n11_; clear n0_ n1_ n2_ n3_ n4_ n5_ n6_ n7_ n8_ n11_; clear ho hb hg hat))
                     go_roundg kj79
                     case measure => have := HJ9.out; have := HJ64.out; have := HK3.out; have := HJ79.out; omega
                     case rel => exact ⟨(x15_3), (y599), (wrap64 (x17_3 + 1)), (by first | rfl | (simp; done) | (simp [*]; done)), H', ⟨by have := HJ9.out; have := HJ64.out; have := HK3.out; have := HJ79.out; omega⟩, ⟨by (with_reducible repeat (first | apply Kd.R_alloc | apply Kd.R_drewN | apply Kd.R_drew)); exact HO_6.out⟩, ⟨by (with_reducible repeat (first | apply Kd.V_alloc | apply Kd.V_drewN | apply Kd.V_drew)); exact Kd.V_mono HO_11.out (fun _ hk => ⟨hk.1.1, ⟨hk.1.2.1, ⟨hk.2, ⟨hk.1.2.2.1, hk.1.2.2.2⟩⟩⟩⟩)⟩, ⟨by (with_reducible repeat (first | apply Kd.V_alloc | apply Kd.V_drewN | apply Kd.V_drew)); exact Kd.V_mono HO_13.out (fun _ hk => ⟨hk.1.1, ⟨hk.1.2.1, ⟨hk.2, ⟨hk.1.2.2.1, hk.1.2.2.2⟩⟩⟩⟩)⟩, ⟨by (with_reducible repeat (first | apply Kd.R_alloc | apply Kd.R_drewN | apply Kd.R_drew)); exact Kd.R_mono HO_15.out (fun _ hk => hk.2)⟩, ⟨by (with_reducible repeat (first | apply Kd.R_alloc | apply Kd.R_drewN | apply Kd.R_drew)); exact HO601.out⟩, ⟨by (with_reducible repeat (first | refine blk_drewN ?_ _ | refine blk_drew ?_ | refine blk_alloc ?_ _)); exact BK558.out⟩, ⟨by (with_reducible repeat (first | refine blk_drewN ?_ _ | refine blk_drew ?_ | refine blk_alloc ?_ _)); exact BK566.out⟩, ⟨by repeat (first | (with_reducible first | exact HB.out | apply below_alloc | apply pw_below_drewN | apply below_drew1 | refine below_set ?_ GE558.out | refine below_set ?_ GE566.out) | exact HB.out)⟩⟩
                    ·rw [if_neg c104] at H
                     exact absurd H (by simp)
                   ·rw [if_neg c103] at H
                    have c103b0 : ((t589.length : Int) == 1) = false := beq_eq_false_iff_ne.mpr c103
                    have c103b1 : ((t589.length : Int) != 1) = true := bne_iff_ne.mpr c103
                    have H' := Aside0.mk H
                    clear H
                    obtain ⟨Ao108, co108, eo108⟩ := Kd.V_slice HO_18.out
                    subst eo108
                    obtain ⟨Ao109, co109, eo109⟩ := Kd.V_slice HO_20.out
                    subst eo109
                    go_wp2
                    go_roundg kj79
                    case measure => have := HJ9.out; have := HJ64.out; have := HK3.out; have := HJ79.out; omega
                    case rel => exact ⟨(x15_3), (x16_3), (wrap64 (x17_3 + 1)), (by first | rfl | (simp; done) | (simp [*]; done)), H', ⟨by have := HJ9.out; have := HJ64.out; have := HK3.out; have := HJ79.out; omega⟩, ⟨by (with_reducible repeat (first | apply Kd.R_alloc | apply Kd.R_drewN | apply Kd.R_drew)); exact HO_6.out⟩, ⟨by (with_reducible repeat (first | apply Kd.V_alloc | apply Kd.V_drewN | apply Kd.V_drew)); exact HO_11.out⟩, ⟨by (with_reducible repeat (first | apply Kd.V_alloc | apply Kd.V_drewN | apply Kd.V_drew)); exact HO_13.out⟩, ⟨by (with_reducible repeat (first | apply Kd.R_alloc | apply Kd.R_drewN | apply Kd.R_drew)); exact HO_15.out⟩, ⟨by (with_reducible repeat (first | apply Kd.R_alloc | apply Kd.R_drewN | apply Kd.R_drew)); exact HO_16.out⟩, ⟨by (with_reducible repeat (first | refine blk_drewN ?_ _ | refine blk_drew ?_ | refine blk_alloc ?_ _)); exact BK558.out⟩, ⟨by (with_reducible repeat (first | refine blk_drewN ?_ _ | refine blk_drew ?_ | refine blk_alloc ?_ _)); exact BK566.out⟩, ⟨by repeat (first | (with_reducible first | exact HB.out | apply below_alloc | apply pw_below_drewN | apply below_drew1 | refine below_set ?_ GE558.out | refine below_set ?_ GE566.out) | exact HB.out)⟩⟩
              ·rw [if_neg c74] at H
               exact absurd H (by simp)
             ·rw [if_neg c73] at H
              exact absurd H (by simp)
            ·rw [if_neg c72] at H
             exact absurd H (by simp)
           ·rw [if_neg c70] at H
            have c70b0 : decide (x17_3 < (t551.length : Int)) = false := decide_eq_false c70
            clear c70
            by_cases c110 : t550 = true
            ·subst c110
             have H1 : ((tipstaffkit_SameInts.f k3 t567 x15_3).bind fun t575 => (if t575 = true then ((tipstaffkit_SameInts.f k3 t571 x16_3).bind fun t576 => (some t576)) else (none))) = some r := by rw [if_pos rfl] at H; exact H
             clear H
             have H := H1
             clear H1
             replace H := Option.bind_eq_some_iff.mp H
             obtain ⟨t575, A1110, H⟩ := H
             replace H : (if t575 = true then ((tipstaffkit_SameInts.f k3 t571 x16_3).bind fun t576 => (some t576)) else (none)) = some r := H
             have A111 := Aside0.mk A1110
             clear A1110
             by_cases c112 : t575 = true
             ·subst c112
              have H1 : ((tipstaffkit_SameInts.f k3 t571 x16_3).bind fun t576 => (some t576)) = some r := by rw [if_pos rfl] at H; exact H
              clear H
              have H := H1
              clear H1
              replace H := Option.bind_eq_some_iff.mp H
              obtain ⟨t576, A1130, H⟩ := H
              replace H : (some t576) = some r := H
              have A113 := Aside0.mk A1130
              clear A1130
              obtain rfl := Option.some.inj H
              obtain ⟨Ao114, co114, eo114⟩ := Kd.V_slice HO_11.out
              subst eo114
              obtain ⟨Ao115, co115, eo115⟩ := Kd.R_slice HO_15.out
              subst eo115
              go_wp2_with (first | (go_at_call 17; (with_reducible refine (tipstaffkit_SameInts.calls k3 _ _ t567 _ _ x15_3 true _ ?side1 ?side2 ?side3 ?side4 A111.out).mono ?_); (case side1 => repeat (first | exact (Kd.V_reads' HO_11.out).2.2 | (with_reducible refine Kd.C_alloc ?_ _) | (with_reducible refine Kd.C_drewN ?_ _) | (with_reducible refine Kd.C_drew ?_))); (case side2 => exact (Kd.V_reads' HO_11.out).2.1); (case side3 => repeat (first | exact (Kd.R_reads' HO_15.out).2.2 | (with_reducible refine Kd.C_alloc ?_ _) | (with_reducible refine Kd.C_drewN ?_ _) | (with_reducible refine Kd.C_drew ?_))); (case side4 => exact (Kd.R_reads' HO_15.out).2.1); rintro e w' ⟨rfl, ⟨nd, rfl⟩⟩; obtain ⟨Ao116, co116, eo116⟩ := Kd.V_slice HO_13.out; subst eo116; obtain ⟨Ao117, co117, eo117⟩ := Kd.R_slice HO_16.out; subst eo117) | (go_at_call 17; (with_reducible refine (tipstaffkit_SameInts.calls k3 _ _ t571 _ _ x16_3 t576 _ ?side1 ?side2 ?side3 ?side4 A113.out).mono ?_); (case side1 => repeat (first | exact (Kd.V_reads' HO_13.out).2.2 | (with_reducible refine Kd.C_alloc ?_ _) | (with_reducible refine Kd.C_drewN ?_ _) | (with_reducible refine Kd.C_drew ?_))); (case side2 => exact (Kd.V_reads' HO_13.out).2.1); (case side3 => repeat (first | exact (Kd.R_reads' HO_16.out).2.2 | (with_reducible refine Kd.C_alloc ?_ _) | (with_reducible refine Kd.C_drewN ?_ _) | (with_reducible refine Kd.C_drew ?_))); (case side4 => exact (Kd.R_reads' HO_16.out).2.1); rintro e w' ⟨rfl, ⟨nd, rfl⟩⟩))
              go_ret
              exact ⟨by first | rfl | (simp [errW_none, errW_some] <;> rfl) | (simp [*, errW_none, errW_some] <;> rfl) | (simp (discharger := omega) only [Int.tdiv_eq_ediv_of_nonneg, Int.tmod_eq_emod_of_nonneg] <;> rfl), by repeat (first | (with_reducible first | exact HB.out | apply below_alloc | apply pw_below_drewN | apply below_drew1 | refine below_set ?_ GE558.out | refine below_set ?_ GE566.out) | exact HB.out)⟩
             ·replace c112 := Bool.eq_false_iff.mpr c112
              subst c112
              have H1 : (none) = some r := by rw [if_neg (show ¬ (false = true) by decide)] at H; exact H
              clear H
              have H := H1
              clear H1
              exact absurd H (by simp)
            ·replace c110 := Bool.eq_false_iff.mpr c110
             subst c110
             have H1 : (none) = some r := by rw [if_neg (show ¬ (false = true) by decide)] at H; exact H
             clear H
             have H := H1
             clear H1
             exact absurd H (by simp)
  ·rw [if_neg c8] at H
   exact absurd H (by simp)
 ·rw [if_neg c7] at H
  exact absurd H (by simp)

/-- THE ONE PURE STATEMENT of tipstafflaw14_LimitParts: yours. -/
def tipstafflaw14_LimitParts.Pure : Prop := ∀ (l0 : List Int) (a1 : Int), l0.length ≤ maxLen → l0.length * 8 ≤ 140737488351232 → (∀ x ∈ l0, (Lit.int .i64 x).wf = true) → (Lit.int .i64 a1).wf = true → ∃ k, tipstafflaw14_LimitParts.f k l0 a1 = some true
theorem tipstafflaw14_LimitParts.walk (P : tipstafflaw14_LimitParts.Pure) (a0 : Option Addr) (len0 cap0 : Nat) (z0 : List Int) (a1 : Int) (w : World) (w0 : (a0 = none ∧ len0 = 0 ∧ cap0 = 0 ∧ z0 = []) ∨ ∃ x, a0 = some x ∧ len0 ≤ cap0 ∧ cap0 ≤ maxLen ∧ z0.length = cap0 ∧ (∀ i, i < z0.length → w.cell? (x.add i) = some (.int .i64 (z0.getD i 0))) ∧ ∀ n ∈ z0, (Lit.int .i64 n).wf = true) (y0 : len0 * 8 ≤ 140737488351232) (w1 : (Lit.int .i64 a1).wf = true) :
  Calls Try.prog 9 #[.slice a0 len0 cap0, .int .i64 a1] w fun e w' => e = .returned (.bool true) ∧ Below w.heap.size w w' := by
 obtain ⟨l0, rfl, hr0, hm0, hw0, hc0⟩ := ReadsInt.ofRowC w0
 obtain ⟨k, h⟩ := P l0 a1 hm0 y0 hw0 w1
 refine (tipstafflaw14_LimitParts.calls k _ _ l0 a1 true w (Kd.C_of_reads (d := (0 : Int)) (h1 := fun _ => rfl) hr0) hc0 h).mono ?_
 rintro e w' ⟨rfl, hd⟩
 exact ⟨rfl, hd⟩

end Go.Proofs.Ytlpdoieokgeikaa.S
