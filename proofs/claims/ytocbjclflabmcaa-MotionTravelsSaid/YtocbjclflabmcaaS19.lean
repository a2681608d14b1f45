import Derived.Test.YtocbjclflabmcaaMtA
import Derived.Test.YtocbjclflabmcaaMtB
namespace Go.Proofs.Ytocbjclflabmcaa.S
open Go.RowKit Go.Proofs.YtocbjclflabmcaaW.PrintWords Go.Proofs.YtocbjclflabmcaaW.PrintLast Go.Proofs.YtocbjclflabmcaaW.PrintMore
attribute [local go_sem] Go.Proofs.YtocbjclflabmcaaW.PrintXtra.isSome_setCell max2_int min2_int max_two min_two max_three min_three max_four min_four   -- for this text's walks alone
set_option linter.unusedVariables false
set_option linter.unusedSimpArgs false

attribute [local go_sem high] eqA23

theorem tipstafflaw09_MotionTravels.calls (k : Nat) (a0 : Int) (a1 : Int) (a2 : Int) (a3 : Int) (a4 : Int) (r : Bool) (w : World) (h : tipstafflaw09_MotionTravels.f k a0 a1 a2 a3 a4 = some r) :
  Calls Try.prog 7 #[.int .i64 a0, .int .i64 a1, .int .i64 a2, .int .i64 a3, .int .i64 a4] w fun e w' => e = .returned (.bool r) ∧ Below w.heap.size w w' := by
 have H : ((tipstafflaw09_MotionKnown.f k).bind fun t393 => ((tipstafflaw09_made.f a0 a1 a2 0).bind fun bt394 => ((tipstaffkit_Mod.f a3 40).bind fun t400 => ((tipstaffkit_Mod.f a4 40).bind fun t401 => ((motion_Left.f k bt394.1 bt394.2.1 bt394.2.2.1 bt394.2.2.2.1).bind fun bt402 => ((tipstafflaw09_far.f bt394.1 bt394.2.1).bind fun t404 => ((tipstaffref08_Travel.f k t404 bt394.2.2.2.1).bind fun bt405 => ((motion_Run.f bt394.1 bt394.2.1 bt394.2.2.1 bt394.2.2.2.1 t400).bind fun bt407 => ((motion_Run.f bt407.1 bt407.2.1 bt407.2.2.1 bt407.2.2.2.1 t401).bind fun bt413 => ((motion_Run.f bt394.1 bt394.2.1 bt394.2.2.1 bt394.2.2.2.1 (wrap64 (t400 + t401))).bind fun bt419 => ((motion_Path.f k bt394.1 bt394.2.1 bt394.2.2.1 bt394.2.2.2.1 (wrap64 (t400 + t401))).bind fun bt425 => (if bt394.2.2.2.2 = true then (if bt402.2 = 0 then (if bt405.2 = 0 then (if bt402.1 = bt405.1 then (if bt407.2.2.2.2 = 0 then (if bt413.2.2.2.2 = 0 then (if bt419.2.2.2.2 = 0 then (if bt425.2 = 0 then (if (!(bt413.1 == bt419.1) || (!(bt413.2.1 == bt419.2.1) || (!(bt413.2.2.1 == bt419.2.2.1) || (!(bt413.2.2.2.1 == bt419.2.2.2.1))))) = true then (none) else (if (bt425.1.length : Int) = (mn (wrap64 (t400 + t401)) bt402.1) then (if t393 = true then (if (bt425.1.length : Int) = 0 then (if t400 = 0 then (some true) else (if t400 > (bt425.1.length : Int) then (some true) else (if 0 ≤ (wrap64 (t400 - 1)) then (if (wrap64 (t400 - 1)) < (bt425.1.length : Int) then (some ((rd bt425.1 (wrap64 (t400 - 1))) == bt407.1)) else (none)) else (none)))) else (if 0 ≤ (wrap64 ((bt425.1.length : Int) - 1)) then (if (wrap64 ((bt425.1.length : Int) - 1)) < (bt425.1.length : Int) then (if (rd bt425.1 (wrap64 ((bt425.1.length : Int) - 1))) = bt419.1 then (if t400 = 0 then (some true) else (if t400 > (bt425.1.length : Int) then (some true) else (if 0 ≤ (wrap64 (t400 - 1)) then (if (wrap64 (t400 - 1)) < (bt425.1.length : Int) then (some ((rd bt425.1 (wrap64 (t400 - 1))) == bt407.1)) else (none)) else (none)))) else (none)) else (none)) else (none))) else (none)) else (none))) else (none)) else (none)) else (none)) else (none)) else (none)) else (none)) else (none)) else (none))))))))))))) = some r := h
 clear h
 obtain ⟨v0, h0, H⟩ := Option.bind_eq_some_iff.mp H
 obtain ⟨v1, h1, H⟩ := Option.bind_eq_some_iff.mp H
 obtain ⟨v2, h2, H⟩ := Option.bind_eq_some_iff.mp H
 obtain ⟨v3, h3, H⟩ := Option.bind_eq_some_iff.mp H
 obtain ⟨v4, h4, H⟩ := Option.bind_eq_some_iff.mp H
 obtain ⟨v5, h5, H⟩ := Option.bind_eq_some_iff.mp H
 obtain ⟨v6, h6, H⟩ := Option.bind_eq_some_iff.mp H
 obtain ⟨v7, h7, H⟩ := Option.bind_eq_some_iff.mp H
 obtain ⟨v8, h8, H⟩ := Option.bind_eq_some_iff.mp H
 obtain ⟨v9, h9, H⟩ := Option.bind_eq_some_iff.mp H
 obtain ⟨v10, h10, H⟩ := Option.bind_eq_some_iff.mp H
 by_cases hz : (v10.1.length : Int) = 0
 ·refine tipstafflaw09_MotionTravels.callsA k a0 a1 a2 a3 a4 r w ?_
  unfold tipstafflaw09_MotionTravels.fA
  refine Option.bind_eq_some_iff.mpr ⟨v0, h0, ?_⟩
  refine Option.bind_eq_some_iff.mpr ⟨v1, h1, ?_⟩
  refine Option.bind_eq_some_iff.mpr ⟨v2, h2, ?_⟩
  refine Option.bind_eq_some_iff.mpr ⟨v3, h3, ?_⟩
  refine Option.bind_eq_some_iff.mpr ⟨v4, h4, ?_⟩
  refine Option.bind_eq_some_iff.mpr ⟨v5, h5, ?_⟩
  refine Option.bind_eq_some_iff.mpr ⟨v6, h6, ?_⟩
  refine Option.bind_eq_some_iff.mpr ⟨v7, h7, ?_⟩
  refine Option.bind_eq_some_iff.mpr ⟨v8, h8, ?_⟩
  refine Option.bind_eq_some_iff.mpr ⟨v9, h9, ?_⟩
  refine Option.bind_eq_some_iff.mpr ⟨v10, h10, ?_⟩
  simp only [if_pos hz] at H ⊢
  exact H
 ·refine tipstafflaw09_MotionTravels.callsB k a0 a1 a2 a3 a4 r w ?_
  unfold tipstafflaw09_MotionTravels.fB
  refine Option.bind_eq_some_iff.mpr ⟨v0, h0, ?_⟩
  refine Option.bind_eq_some_iff.mpr ⟨v1, h1, ?_⟩
  refine Option.bind_eq_some_iff.mpr ⟨v2, h2, ?_⟩
  refine Option.bind_eq_some_iff.mpr ⟨v3, h3, ?_⟩
  refine Option.bind_eq_some_iff.mpr ⟨v4, h4, ?_⟩
  refine Option.bind_eq_some_iff.mpr ⟨v5, h5, ?_⟩
  refine Option.bind_eq_some_iff.mpr ⟨v6, h6, ?_⟩
  refine Option.bind_eq_some_iff.mpr ⟨v7, h7, ?_⟩
  refine Option.bind_eq_some_iff.mpr ⟨v8, h8, ?_⟩
  refine Option.bind_eq_some_iff.mpr ⟨v9, h9, ?_⟩
  refine Option.bind_eq_some_iff.mpr ⟨v10, h10, ?_⟩
  simp only [if_neg hz] at H ⊢
  exact H

/-- THE ONE PURE STATEMENT of tipstafflaw09_MotionTravels: yours. -/
def tipstafflaw09_MotionTravels.Pure : Prop := ∀ (a0 : Int) (a1 : Int) (a2 : Int) (a3 : Int) (a4 : Int), (Lit.int .i64 a0).wf = true → (Lit.int .i64 a1).wf = true → (Lit.int .i64 a2).wf = true → (Lit.int .i64 a3).wf = true → (Lit.int .i64 a4).wf = true → ∃ k, tipstafflaw09_MotionTravels.f k a0 a1 a2 a3 a4 = some true
theorem tipstafflaw09_MotionTravels.walk (P : tipstafflaw09_MotionTravels.Pure) (a0 : Int) (a1 : Int) (a2 : Int) (a3 : Int) (a4 : Int) (w : World) (w0 : (Lit.int .i64 a0).wf = true) (w1 : (Lit.int .i64 a1).wf = true) (w2 : (Lit.int .i64 a2).wf = true) (w3 : (Lit.int .i64 a3).wf = true) (w4 : (Lit.int .i64 a4).wf = true) :
  Calls Try.prog 7 #[.int .i64 a0, .int .i64 a1, .int .i64 a2, .int .i64 a3, .int .i64 a4] w fun e w' => e = .returned (.bool true) ∧ Below w.heap.size w w' := by
 obtain ⟨k, h⟩ := P a0 a1 a2 a3 a4 w0 w1 w2 w3 w4
 refine (tipstafflaw09_MotionTravels.calls k a0 a1 a2 a3 a4 true w h).mono ?_
 rintro e w' ⟨rfl, hd⟩
 exact ⟨rfl, hd⟩

end Go.Proofs.Ytocbjclflabmcaa.S
