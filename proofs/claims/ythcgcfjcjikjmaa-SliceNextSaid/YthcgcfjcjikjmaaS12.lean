-- PRINTED by print.py (a twelfth state) out of the translation. Not trusted: Lean checks it.
import Derived.Test.YthcgcfjcjikjmaaS0
import Derived.Test.YthcgcfjcjikjmaaS3
import Derived.Test.YthcgcfjcjikjmaaS9
import Derived.Test.YthcgcfjcjikjmaaS11
import Derived.Test.YthcgcfjcjikjmaaHnext
namespace Go.Proofs.Ythcgcfjcjikjmaa.S
open Go.RowKit Go.Proofs.YthcgcfjcjikjmaaW.PrintWords Go.Proofs.YthcgcfjcjikjmaaW.PrintLast Go.Proofs.YthcgcfjcjikjmaaW.PrintMore
attribute [local go_sem] Go.Proofs.YthcgcfjcjikjmaaW.PrintXtra.isSome_setCell max2_int min2_int max_two min_two max_three min_three max_four min_four   -- for this text's walks alone
set_option linter.unusedVariables false
set_option linter.unusedSimpArgs false

/-! ### tipstaffkit_Has: function 37 -/
def tipstaffkit_Has.l0 : Nat → List Int → Int → Int → Option (Bool)
  | 0, _, _, _ => none
  | k + 1, x0, x1, x5 => if x5 < (x0.length : Int) then (if 0 ≤ x5 then (if (rd x0 x5) = x1 then (some true) else (tipstaffkit_Has.l0 k x0 x1 (wrap64 (x5 + 1)))) else (none)) else (some false)
def tipstaffkit_Has.f (k : Nat) (l0 : List Int) (a1 : Int) : Option (Bool) := tipstaffkit_Has.l0 k l0 a1 0
theorem tipstaffkit_Has.mono_l : ∀ k, (∀ y0 y1 y2, LeO (tipstaffkit_Has.l0 k y0 y1 y2) (tipstaffkit_Has.l0 (k + 1) y0 y1 y2))
  | 0 => fun _ _ _ r h => by simp [tipstaffkit_Has.l0] at h
  | k + 1 => by
    have ih0 := tipstaffkit_Has.mono_l k
    · intro y0 y1 y2
      unfold tipstaffkit_Has.l0
      repeat' first
      | (with_reducible exact ih0 _ _ _)
      | (with_reducible exact LeO.refl _)
      | (with_reducible exact LeO.none _)
      | (with_reducible refine LeO.ite ?_ ?_)
      | (with_reducible refine LeO.bind ?_ (fun _ => ?_))
      | exact ih0 _ _ _
      | exact LeO.none _
      | refine LeO.ite ?_ ?_
      | refine LeO.bind ?_ (fun _ => ?_)
theorem tipstaffkit_Has.mono : ∀ a0 a1 k, LeO (tipstaffkit_Has.f k a0 a1) (tipstaffkit_Has.f (k + 1) a0 a1) := by
  intro a0 a1 k
  have ih0 := tipstaffkit_Has.mono_l k
  unfold tipstaffkit_Has.f
  repeat' first
      | (with_reducible exact ih0 _ _ _)
      | (with_reducible exact LeO.refl _)
      | (with_reducible exact LeO.none _)
      | (with_reducible refine LeO.ite ?_ ?_)
      | (with_reducible refine LeO.bind ?_ (fun _ => ?_))
      | exact ih0 _ _ _
      | exact LeO.none _
      | refine LeO.ite ?_ ?_
      | refine LeO.bind ?_ (fun _ => ?_)
set_option maxHeartbeats 8000000 in
set_option maxRecDepth 100000 in
theorem tipstaffkit_Has.calls (k : Nat) (A0 : Option Addr) (c0 : Nat) (l0 : List Int) (a1 : Int) (r : Bool) (w : World) (hr0 : Kd.C (Kd.int .i64) w A0 l0.length l0) (hc0 : l0.length ≤ c0) (h : tipstaffkit_Has.f k l0 a1 = some r) :
    Calls Try.prog 37 #[.slice A0 l0.length c0, .int .i64 a1] w fun e w' => e = .returned (.bool r) ∧ Drawn0 w w' := by
  have HR0 := Aside0.mk hr0
  have HC0 := Aside0.mk hc0
  clear hr0 hc0
  have H : (tipstaffkit_Has.l0 k l0 a1 0) = some r := h
  clear h
  have H' := Aside0.mk H
  clear H
  go_enter Try.func37, Try.ntmps37
  go_wp2
  go_loopg [5] k (fun kq v5 w' => ∃ (x5_1 : Int), v5 = .int .i64 x5_1 ∧ Aside0 (tipstaffkit_Has.l0 kq l0 a1 x5_1 = some r) ∧ Aside0 (kq ≤ k) ∧ Drawn0 w w')
  case atStart => exact ⟨(0), (by first | rfl | (simp; done) | (simp [*]; done)), H', ⟨Nat.le_refl _⟩, by repeat (first | exact Drawn0.refl _ | apply Drawn0.step)⟩
  case round =>
    clear H'
    try clear p2
    obtain ⟨x5_1, rfl, HA, HK1, ⟨m1, rfl⟩⟩ := hrel
    cases gk with
    | zero => exact absurd HA.out (by simp [tipstaffkit_Has.l0])
    | succ k1 =>
      have H := HA.out
      clear HA
      simp only [tipstaffkit_Has.l0] at H
      by_cases c3 : x5_1 < (l0.length : Int)
      · rw [if_pos c3] at H
        have c3b0 : decide (x5_1 < (l0.length : Int)) = true := decide_eq_true c3
        clear c3
        by_cases c4 : 0 ≤ x5_1
        · rw [if_pos c4] at H
          have c4b0 : decide (0 ≤ x5_1) = true := decide_eq_true c4
          clear c4
          by_cases c5 : (rd l0 x5_1) = a1
          · rw [if_pos c5] at H
            have c5b0 : ((rd l0 x5_1) == a1) = true := beq_iff_eq.mpr c5
            have c5b1 : ((rd l0 x5_1) != a1) = false := bne_eq_false_iff_eq.mpr c5
            clear c5
            obtain rfl := Option.some.inj H
            have p412 : 0 ≤ (x5_1 : Int) := of_decide_eq_true (by first | (with_reducible assumption) | assumption)
            have q412 : x5_1 < (l0.length : Int) := of_decide_eq_true (by first | (with_reducible assumption) | assumption)
            obtain ⟨ad412, e412, hx412_0⟩ := Kd.at_int HR0.out x5_1 p412 q412
            cases e412
            replace p412 := eq_true p412
            replace q412 := eq_true q412
            go_wp2
            go_ret
            exact ⟨by first | rfl | (simp; done) | (simp [*]; done), by repeat (first | exact Drawn0.refl _ | apply Drawn0.step)⟩
          · rw [if_neg c5] at H
            have c5b0 : ((rd l0 x5_1) == a1) = false := beq_eq_false_iff_ne.mpr c5
            have c5b1 : ((rd l0 x5_1) != a1) = true := bne_iff_ne.mpr c5
            have H' := Aside0.mk H
            clear H
            have p412 : 0 ≤ (x5_1 : Int) := of_decide_eq_true (by first | (with_reducible assumption) | assumption)
            have q412 : x5_1 < (l0.length : Int) := of_decide_eq_true (by first | (with_reducible assumption) | assumption)
            obtain ⟨ad412, e412, hx412_0⟩ := Kd.at_int HR0.out x5_1 p412 q412
            cases e412
            replace p412 := eq_true p412
            replace q412 := eq_true q412
            go_wp2
            go_roundg k1
            case measure => have := HK1.out; omega
            case rel => exact ⟨(wrap64 (x5_1 + 1)), (by first | rfl | (simp; done) | (simp [*]; done)), H', ⟨by have := HK1.out; omega⟩, by repeat (first | exact Drawn0.refl _ | apply Drawn0.step)⟩
        · rw [if_neg c4] at H
          exact absurd H (by simp)
      · rw [if_neg c3] at H
        have c3b0 : decide (x5_1 < (l0.length : Int)) = false := decide_eq_false c3
        clear c3
        obtain rfl := Option.some.inj H
        go_wp2
        go_ret
        exact ⟨by first | rfl | (simp; done) | (simp [*]; done), by repeat (first | exact Drawn0.refl _ | apply Drawn0.step)⟩

-- NOT PRINTED: function 6 (tipstafflaw25_SliceOne)

/-! ### tipstafflaw25_SliceNext: function 7 -/
mutual
def tipstafflaw25_SliceNext.j0 : Nat → Int → Bool → List (List Int) → Int → Int → Int → Int → Int → Int → Int → Bool → Option (Bool)
  | 0, _, _, _, _, _, _, _, _, _, _, _ => none
  | k + 1, x4, x11, x12, x13, x14, x15, x16, x17, x18, x19, x65 => if x65 = true then (if x11 = true then (if x17 = x19 then (if 0 ≤ (wrap64 (x13 - 1)) then (if (wrap64 (x13 - 1)) < (x12.length : Int) then ((tipstaffkit_Has.f k (rd_L1 x12 (wrap64 (x13 - 1))) x14).bind fun t454 => (some (!t454))) else (none)) else (none)) else (none)) else (none)) else (if x17 = 0 then (if x19 = 0 then (if x16 < x4 then (tipstafflaw25_SliceNext.j1 k x4 x11 x12 x13 x14 x15 x16 true) else (if x15 = 0 then (none) else (if (Int.tmod x16 x15) = 0 then (tipstafflaw25_SliceNext.j1 k x4 x11 x12 x13 x14 x15 x16 (decide ((wrap64 (x16 - x4)) ≥ (wrap64 (x18 * x15))))) else (tipstafflaw25_SliceNext.j1 k x4 x11 x12 x13 x14 x15 x16 true)))) else (tipstafflaw25_SliceNext.j1 k x4 x11 x12 x13 x14 x15 x16 true)) else (tipstafflaw25_SliceNext.j1 k x4 x11 x12 x13 x14 x15 x16 true))
def tipstafflaw25_SliceNext.j1 : Nat → Int → Bool → List (List Int) → Int → Int → Int → Int → Bool → Option (Bool)
  | 0, _, _, _, _, _, _, _, _ => none
  | k + 1, x4, x11, x12, x13, x14, x15, x16, x107 => if x107 = true then (none) else (tipstafflaw25_SliceNext.l0 k x11 x12 x13 x14 x15 x16 x4)
def tipstafflaw25_SliceNext.l0 : Nat → Bool → List (List Int) → Int → Int → Int → Int → Int → Option (Bool)
  | 0, _, _, _, _, _, _, _ => none
  | k + 1, x11, x12, x13, x14, x15, x16, x20 => if x20 ≤ x16 then ((slice_Domain.f k x12 x15 x13 x20).bind fun bt455 => (if bt455.2 = 0 then (if x15 = 0 then (none) else (if (Int.tmod x20 x15) = 0 then (if ((bt455.1 == x14) != (x20 == x16)) = true then (none) else (tipstafflaw25_SliceNext.l0 k x11 x12 x13 x14 x15 x16 (wrap64 (x20 + 1)))) else (if (false != (x20 == x16)) = true then (none) else (tipstafflaw25_SliceNext.l0 k x11 x12 x13 x14 x15 x16 (wrap64 (x20 + 1)))))) else (none))) else (some x11)
end
def tipstafflaw25_SliceNext.f (k : Nat) (a0 : Int) (a1 : Int) (l2 : List Int) (a3 : Int) (a4 : Int) : Option (Bool) := (tipstafflaw25_SliceKnown.f k).bind fun t443 => ((tipstafflaw25_made.f k a0 a1 l2).bind fun t444 => ((tipstaffkit_Mod.f a3 1048576).bind fun t447 => (if (t444.length : Int) = 0 then (none) else ((tipstaffkit_Mod.f a4 5000).bind fun t448 => ((slice_Next.f k t444 (wrap64 (1 + (Int.tmod (wrap64 (Int.tdiv t447 32)) 20))) (wrap64 (1 + (Int.tmod t447 (t444.length : Int)))) (Int.tmod (wrap64 (Int.tdiv t447 8)) 4) t448).bind fun bt449 => ((slice_Wait.f k t444 (wrap64 (1 + (Int.tmod t447 (t444.length : Int)))) (Int.tmod (wrap64 (Int.tdiv t447 8)) 4)).bind fun bt451 => (if bt449.2 = 6 then (tipstafflaw25_SliceNext.j0 k t448 t443 t444 (wrap64 (1 + (Int.tmod t447 (t444.length : Int)))) (Int.tmod (wrap64 (Int.tdiv t447 8)) 4) (wrap64 (1 + (Int.tmod (wrap64 (Int.tdiv t447 32)) 20))) bt449.1 bt449.2 bt451.1 bt451.2 true) else (tipstafflaw25_SliceNext.j0 k t448 t443 t444 (wrap64 (1 + (Int.tmod t447 (t444.length : Int)))) (Int.tmod (wrap64 (Int.tdiv t447 8)) 4) (wrap64 (1 + (Int.tmod (wrap64 (Int.tdiv t447 32)) 20))) bt449.1 bt449.2 bt451.1 bt451.2 (bt451.2 == 6)))))))))
theorem tipstafflaw25_SliceNext.mono_l : ∀ k, (∀ y0 y1 y2 y3 y4 y5 y6 y7 y8 y9 y10, LeO (tipstafflaw25_SliceNext.j0 k y0 y1 y2 y3 y4 y5 y6 y7 y8 y9 y10) (tipstafflaw25_SliceNext.j0 (k + 1) y0 y1 y2 y3 y4 y5 y6 y7 y8 y9 y10)) ∧ (∀ y0 y1 y2 y3 y4 y5 y6 y7, LeO (tipstafflaw25_SliceNext.j1 k y0 y1 y2 y3 y4 y5 y6 y7) (tipstafflaw25_SliceNext.j1 (k + 1) y0 y1 y2 y3 y4 y5 y6 y7)) ∧ (∀ y0 y1 y2 y3 y4 y5 y6, LeO (tipstafflaw25_SliceNext.l0 k y0 y1 y2 y3 y4 y5 y6) (tipstafflaw25_SliceNext.l0 (k + 1) y0 y1 y2 y3 y4 y5 y6))
  | 0 => ⟨fun _ _ _ _ _ _ _ _ _ _ _ r h => by simp [tipstafflaw25_SliceNext.j0] at h, fun _ _ _ _ _ _ _ _ r h => by simp [tipstafflaw25_SliceNext.j1] at h, fun _ _ _ _ _ _ _ r h => by simp [tipstafflaw25_SliceNext.l0] at h⟩
  | k + 1 => by
    obtain ⟨ih0, ih1, ih2⟩ := tipstafflaw25_SliceNext.mono_l k
    refine ⟨?_, ?_, ?_⟩
    · intro y0 y1 y2 y3 y4 y5 y6 y7 y8 y9 y10
      unfold tipstafflaw25_SliceNext.j0
      repeat' first
      | (with_reducible exact ih0 _ _ _ _ _ _ _ _ _ _ _)
      | (with_reducible exact ih1 _ _ _ _ _ _ _ _)
      | (with_reducible exact ih2 _ _ _ _ _ _ _)
      | (with_reducible exact slice_Domain.mono _ _ _ _ _)
      | (with_reducible exact slice_Next.mono _ _ _ _ _ _)
      | (with_reducible exact slice_Wait.mono _ _ _ _)
      | (with_reducible exact tipstaffkit_Has.mono _ _ _)
      | (with_reducible exact tipstafflaw25_SliceKnown.mono _)
      | (with_reducible exact tipstafflaw25_made.mono _ _ _ _)
      | (with_reducible exact LeO.refl _)
      | (with_reducible exact LeO.none _)
      | (with_reducible refine LeO.ite ?_ ?_)
      | (with_reducible refine LeO.bind ?_ (fun _ => ?_))
      | exact ih0 _ _ _ _ _ _ _ _ _ _ _
      | exact ih1 _ _ _ _ _ _ _ _
      | exact ih2 _ _ _ _ _ _ _
      | exact slice_Domain.mono _ _ _ _ _
      | exact slice_Next.mono _ _ _ _ _ _
      | exact slice_Wait.mono _ _ _ _
      | exact tipstaffkit_Has.mono _ _ _
      | exact tipstafflaw25_SliceKnown.mono _
      | exact tipstafflaw25_made.mono _ _ _ _
      | exact LeO.none _
      | refine LeO.ite ?_ ?_
      | refine LeO.bind ?_ (fun _ => ?_)
    · intro y0 y1 y2 y3 y4 y5 y6 y7
      unfold tipstafflaw25_SliceNext.j1
      repeat' first
      | (with_reducible exact ih0 _ _ _ _ _ _ _ _ _ _ _)
      | (with_reducible exact ih1 _ _ _ _ _ _ _ _)
      | (with_reducible exact ih2 _ _ _ _ _ _ _)
      | (with_reducible exact slice_Domain.mono _ _ _ _ _)
      | (with_reducible exact slice_Next.mono _ _ _ _ _ _)
      | (with_reducible exact slice_Wait.mono _ _ _ _)
      | (with_reducible exact tipstaffkit_Has.mono _ _ _)
      | (with_reducible exact tipstafflaw25_SliceKnown.mono _)
      | (with_reducible exact tipstafflaw25_made.mono _ _ _ _)
      | (with_reducible exact LeO.refl _)
      | (with_reducible exact LeO.none _)
      | (with_reducible refine LeO.ite ?_ ?_)
      | (with_reducible refine LeO.bind ?_ (fun _ => ?_))
      | exact ih0 _ _ _ _ _ _ _ _ _ _ _
      | exact ih1 _ _ _ _ _ _ _ _
      | exact ih2 _ _ _ _ _ _ _
      | exact slice_Domain.mono _ _ _ _ _
      | exact slice_Next.mono _ _ _ _ _ _
      | exact slice_Wait.mono _ _ _ _
      | exact tipstaffkit_Has.mono _ _ _
      | exact tipstafflaw25_SliceKnown.mono _
      | exact tipstafflaw25_made.mono _ _ _ _
      | exact LeO.none _
      | refine LeO.ite ?_ ?_
      | refine LeO.bind ?_ (fun _ => ?_)
    · intro y0 y1 y2 y3 y4 y5 y6
      unfold tipstafflaw25_SliceNext.l0
      repeat' first
      | (with_reducible exact ih0 _ _ _ _ _ _ _ _ _ _ _)
      | (with_reducible exact ih1 _ _ _ _ _ _ _ _)
      | (with_reducible exact ih2 _ _ _ _ _ _ _)
      | (with_reducible exact slice_Domain.mono _ _ _ _ _)
      | (with_reducible exact slice_Next.mono _ _ _ _ _ _)
      | (with_reducible exact slice_Wait.mono _ _ _ _)
      | (with_reducible exact tipstaffkit_Has.mono _ _ _)
      | (with_reducible exact tipstafflaw25_SliceKnown.mono _)
      | (with_reducible exact tipstafflaw25_made.mono _ _ _ _)
      | (with_reducible exact LeO.refl _)
      | (with_reducible exact LeO.none _)
      | (with_reducible refine LeO.ite ?_ ?_)
      | (with_reducible refine LeO.bind ?_ (fun _ => ?_))
      | exact ih0 _ _ _ _ _ _ _ _ _ _ _
      | exact ih1 _ _ _ _ _ _ _ _
      | exact ih2 _ _ _ _ _ _ _
      | exact slice_Domain.mono _ _ _ _ _
      | exact slice_Next.mono _ _ _ _ _ _
      | exact slice_Wait.mono _ _ _ _
      | exact tipstaffkit_Has.mono _ _ _
      | exact tipstafflaw25_SliceKnown.mono _
      | exact tipstafflaw25_made.mono _ _ _ _
      | exact LeO.none _
      | refine LeO.ite ?_ ?_
      | refine LeO.bind ?_ (fun _ => ?_)
theorem tipstafflaw25_SliceNext.mono : ∀ a0 a1 a2 a3 a4 k, LeO (tipstafflaw25_SliceNext.f k a0 a1 a2 a3 a4) (tipstafflaw25_SliceNext.f (k + 1) a0 a1 a2 a3 a4) := by
  intro a0 a1 a2 a3 a4 k
  obtain ⟨ih0, ih1, ih2⟩ := tipstafflaw25_SliceNext.mono_l k
  unfold tipstafflaw25_SliceNext.f
  repeat' first
      | (with_reducible exact ih0 _ _ _ _ _ _ _ _ _ _ _)
      | (with_reducible exact ih1 _ _ _ _ _ _ _ _)
      | (with_reducible exact ih2 _ _ _ _ _ _ _)
      | (with_reducible exact slice_Domain.mono _ _ _ _ _)
      | (with_reducible exact slice_Next.mono _ _ _ _ _ _)
      | (with_reducible exact slice_Wait.mono _ _ _ _)
      | (with_reducible exact tipstaffkit_Has.mono _ _ _)
      | (with_reducible exact tipstafflaw25_SliceKnown.mono _)
      | (with_reducible exact tipstafflaw25_made.mono _ _ _ _)
      | (with_reducible exact LeO.refl _)
      | (with_reducible exact LeO.none _)
      | (with_reducible refine LeO.ite ?_ ?_)
      | (with_reducible refine LeO.bind ?_ (fun _ => ?_))
      | exact ih0 _ _ _ _ _ _ _ _ _ _ _
      | exact ih1 _ _ _ _ _ _ _ _
      | exact ih2 _ _ _ _ _ _ _
      | exact slice_Domain.mono _ _ _ _ _
      | exact slice_Next.mono _ _ _ _ _ _
      | exact slice_Wait.mono _ _ _ _
      | exact tipstaffkit_Has.mono _ _ _
      | exact tipstafflaw25_SliceKnown.mono _
      | exact tipstafflaw25_made.mono _ _ _ _
      | exact LeO.none _
      | refine LeO.ite ?_ ?_
      | refine LeO.bind ?_ (fun _ => ?_)
set_option maxHeartbeats 8000000 in
set_option maxRecDepth 100000 in
theorem tipstafflaw25_SliceNext.calls (k : Nat) (a0 : Int) (a1 : Int) (A2 : Option Addr) (c2 : Nat) (l2 : List Int) (a3 : Int) (a4 : Int) (r : Bool) (w : World) (hr2 : Kd.C (Kd.int .i64) w A2 l2.length l2) (hc2 : l2.length ≤ c2) (h : tipstafflaw25_SliceNext.f k a0 a1 l2 a3 a4 = some r) :
    Calls Try.prog 7 #[.int .i64 a0, .int .i64 a1, .slice A2 l2.length c2, .int .i64 a3, .int .i64 a4] w fun e w' => e = .returned (.bool r) ∧ Below w.heap.size w w' := by
  have HR2 := Aside0.mk hr2
  have HC2 := Aside0.mk hc2
  clear hr2 hc2
  have HB := Aside0.mk (Below.refl w.heap.size w)
  have H : ((tipstafflaw25_SliceKnown.f k).bind fun t443 => ((tipstafflaw25_made.f k a0 a1 l2).bind fun t444 => ((tipstaffkit_Mod.f a3 1048576).bind fun t447 => (if (t444.length : Int) = 0 then (none) else ((tipstaffkit_Mod.f a4 5000).bind fun t448 => ((slice_Next.f k t444 (wrap64 (1 + (Int.tmod (wrap64 (Int.tdiv t447 32)) 20))) (wrap64 (1 + (Int.tmod t447 (t444.length : Int)))) (Int.tmod (wrap64 (Int.tdiv t447 8)) 4) t448).bind fun bt449 => ((slice_Wait.f k t444 (wrap64 (1 + (Int.tmod t447 (t444.length : Int)))) (Int.tmod (wrap64 (Int.tdiv t447 8)) 4)).bind fun bt451 => (if bt449.2 = 6 then (tipstafflaw25_SliceNext.j0 k t448 t443 t444 (wrap64 (1 + (Int.tmod t447 (t444.length : Int)))) (Int.tmod (wrap64 (Int.tdiv t447 8)) 4) (wrap64 (1 + (Int.tmod (wrap64 (Int.tdiv t447 32)) 20))) bt449.1 bt449.2 bt451.1 bt451.2 true) else (tipstafflaw25_SliceNext.j0 k t448 t443 t444 (wrap64 (1 + (Int.tmod t447 (t444.length : Int)))) (Int.tmod (wrap64 (Int.tdiv t447 8)) 4) (wrap64 (1 + (Int.tmod (wrap64 (Int.tdiv t447 32)) 20))) bt449.1 bt449.2 bt451.1 bt451.2 (bt451.2 == 6)))))))))) = some r := h
  clear h
  replace H := Option.bind_eq_some_iff.mp H
  obtain ⟨t443, A60, H⟩ := H
  replace H : ((tipstafflaw25_made.f k a0 a1 l2).bind fun t444 => ((tipstaffkit_Mod.f a3 1048576).bind fun t447 => (if (t444.length : Int) = 0 then (none) else ((tipstaffkit_Mod.f a4 5000).bind fun t448 => ((slice_Next.f k t444 (wrap64 (1 + (Int.tmod (wrap64 (Int.tdiv t447 32)) 20))) (wrap64 (1 + (Int.tmod t447 (t444.length : Int)))) (Int.tmod (wrap64 (Int.tdiv t447 8)) 4) t448).bind fun bt449 => ((slice_Wait.f k t444 (wrap64 (1 + (Int.tmod t447 (t444.length : Int)))) (Int.tmod (wrap64 (Int.tdiv t447 8)) 4)).bind fun bt451 => (if bt449.2 = 6 then (tipstafflaw25_SliceNext.j0 k t448 t443 t444 (wrap64 (1 + (Int.tmod t447 (t444.length : Int)))) (Int.tmod (wrap64 (Int.tdiv t447 8)) 4) (wrap64 (1 + (Int.tmod (wrap64 (Int.tdiv t447 32)) 20))) bt449.1 bt449.2 bt451.1 bt451.2 true) else (tipstafflaw25_SliceNext.j0 k t448 t443 t444 (wrap64 (1 + (Int.tmod t447 (t444.length : Int)))) (Int.tmod (wrap64 (Int.tdiv t447 8)) 4) (wrap64 (1 + (Int.tmod (wrap64 (Int.tdiv t447 32)) 20))) bt449.1 bt449.2 bt451.1 bt451.2 (bt451.2 == 6))))))))) = some r := H
  have A6 := Aside0.mk A60
  clear A60
  replace H := Option.bind_eq_some_iff.mp H
  obtain ⟨t444, A70, H⟩ := H
  replace H : ((tipstaffkit_Mod.f a3 1048576).bind fun t447 => (if (t444.length : Int) = 0 then (none) else ((tipstaffkit_Mod.f a4 5000).bind fun t448 => ((slice_Next.f k t444 (wrap64 (1 + (Int.tmod (wrap64 (Int.tdiv t447 32)) 20))) (wrap64 (1 + (Int.tmod t447 (t444.length : Int)))) (Int.tmod (wrap64 (Int.tdiv t447 8)) 4) t448).bind fun bt449 => ((slice_Wait.f k t444 (wrap64 (1 + (Int.tmod t447 (t444.length : Int)))) (Int.tmod (wrap64 (Int.tdiv t447 8)) 4)).bind fun bt451 => (if bt449.2 = 6 then (tipstafflaw25_SliceNext.j0 k t448 t443 t444 (wrap64 (1 + (Int.tmod t447 (t444.length : Int)))) (Int.tmod (wrap64 (Int.tdiv t447 8)) 4) (wrap64 (1 + (Int.tmod (wrap64 (Int.tdiv t447 32)) 20))) bt449.1 bt449.2 bt451.1 bt451.2 true) else (tipstafflaw25_SliceNext.j0 k t448 t443 t444 (wrap64 (1 + (Int.tmod t447 (t444.length : Int)))) (Int.tmod (wrap64 (Int.tdiv t447 8)) 4) (wrap64 (1 + (Int.tmod (wrap64 (Int.tdiv t447 32)) 20))) bt449.1 bt449.2 bt451.1 bt451.2 (bt451.2 == 6)))))))) = some r := H
  have A7 := Aside0.mk A70
  clear A70
  replace H := Option.bind_eq_some_iff.mp H
  obtain ⟨t447, A80, H⟩ := H
  replace H : (if (t444.length : Int) = 0 then (none) else ((tipstaffkit_Mod.f a4 5000).bind fun t448 => ((slice_Next.f k t444 (wrap64 (1 + (Int.tmod (wrap64 (Int.tdiv t447 32)) 20))) (wrap64 (1 + (Int.tmod t447 (t444.length : Int)))) (Int.tmod (wrap64 (Int.tdiv t447 8)) 4) t448).bind fun bt449 => ((slice_Wait.f k t444 (wrap64 (1 + (Int.tmod t447 (t444.length : Int)))) (Int.tmod (wrap64 (Int.tdiv t447 8)) 4)).bind fun bt451 => (if bt449.2 = 6 then (tipstafflaw25_SliceNext.j0 k t448 t443 t444 (wrap64 (1 + (Int.tmod t447 (t444.length : Int)))) (Int.tmod (wrap64 (Int.tdiv t447 8)) 4) (wrap64 (1 + (Int.tmod (wrap64 (Int.tdiv t447 32)) 20))) bt449.1 bt449.2 bt451.1 bt451.2 true) else (tipstafflaw25_SliceNext.j0 k t448 t443 t444 (wrap64 (1 + (Int.tmod t447 (t444.length : Int)))) (Int.tmod (wrap64 (Int.tdiv t447 8)) 4) (wrap64 (1 + (Int.tmod (wrap64 (Int.tdiv t447 32)) 20))) bt449.1 bt449.2 bt451.1 bt451.2 (bt451.2 == 6))))))) = some r := H
  have A8 := Aside0.mk A80
  clear A80
  by_cases c9 : (t444.length : Int) = 0
  · rw [if_pos c9] at H
    exact absurd H (by simp)
  · rw [if_neg c9] at H
    have c9b0 : ((t444.length : Int) == 0) = false := beq_eq_false_iff_ne.mpr c9
    have c9b1 : ((t444.length : Int) != 0) = true := bne_iff_ne.mpr c9
    have c9b2 : ¬ (t444 = []) := fun h_ => c9 (by rw [h_]; rfl)
    replace H := Option.bind_eq_some_iff.mp H
    obtain ⟨t448, A100, H⟩ := H
    replace H : ((slice_Next.f k t444 (wrap64 (1 + (Int.tmod (wrap64 (Int.tdiv t447 32)) 20))) (wrap64 (1 + (Int.tmod t447 (t444.length : Int)))) (Int.tmod (wrap64 (Int.tdiv t447 8)) 4) t448).bind fun bt449 => ((slice_Wait.f k t444 (wrap64 (1 + (Int.tmod t447 (t444.length : Int)))) (Int.tmod (wrap64 (Int.tdiv t447 8)) 4)).bind fun bt451 => (if bt449.2 = 6 then (tipstafflaw25_SliceNext.j0 k t448 t443 t444 (wrap64 (1 + (Int.tmod t447 (t444.length : Int)))) (Int.tmod (wrap64 (Int.tdiv t447 8)) 4) (wrap64 (1 + (Int.tmod (wrap64 (Int.tdiv t447 32)) 20))) bt449.1 bt449.2 bt451.1 bt451.2 true) else (tipstafflaw25_SliceNext.j0 k t448 t443 t444 (wrap64 (1 + (Int.tmod t447 (t444.length : Int)))) (Int.tmod (wrap64 (Int.tdiv t447 8)) 4) (wrap64 (1 + (Int.tmod (wrap64 (Int.tdiv t447 32)) 20))) bt449.1 bt449.2 bt451.1 bt451.2 (bt451.2 == 6))))) = some r := H
    have A10 := Aside0.mk A100
    clear A100
    replace H := Option.bind_eq_some_iff.mp H
    obtain ⟨⟨t449, t450⟩, A110, H⟩ := H
    replace H : ((slice_Wait.f k t444 (wrap64 (1 + (Int.tmod t447 (t444.length : Int)))) (Int.tmod (wrap64 (Int.tdiv t447 8)) 4)).bind fun bt451 => (if t450 = 6 then (tipstafflaw25_SliceNext.j0 k t448 t443 t444 (wrap64 (1 + (Int.tmod t447 (t444.length : Int)))) (Int.tmod (wrap64 (Int.tdiv t447 8)) 4) (wrap64 (1 + (Int.tmod (wrap64 (Int.tdiv t447 32)) 20))) t449 t450 bt451.1 bt451.2 true) else (tipstafflaw25_SliceNext.j0 k t448 t443 t444 (wrap64 (1 + (Int.tmod t447 (t444.length : Int)))) (Int.tmod (wrap64 (Int.tdiv t447 8)) 4) (wrap64 (1 + (Int.tmod (wrap64 (Int.tdiv t447 32)) 20))) t449 t450 bt451.1 bt451.2 (bt451.2 == 6)))) = some r := H
    have A11 := Aside0.mk A110
    clear A110
    replace H := Option.bind_eq_some_iff.mp H
    obtain ⟨⟨t451, t452⟩, A120, H⟩ := H
    replace H : (if t450 = 6 then (tipstafflaw25_SliceNext.j0 k t448 t443 t444 (wrap64 (1 + (Int.tmod t447 (t444.length : Int)))) (Int.tmod (wrap64 (Int.tdiv t447 8)) 4) (wrap64 (1 + (Int.tmod (wrap64 (Int.tdiv t447 32)) 20))) t449 t450 t451 t452 true) else (tipstafflaw25_SliceNext.j0 k t448 t443 t444 (wrap64 (1 + (Int.tmod t447 (t444.length : Int)))) (Int.tmod (wrap64 (Int.tdiv t447 8)) 4) (wrap64 (1 + (Int.tmod (wrap64 (Int.tdiv t447 32)) 20))) t449 t450 t451 t452 (t452 == 6))) = some r := H
    have A12 := Aside0.mk A120
    clear A120
    have HC13 := Aside0.mk H
    clear H
    go_enter Try.func7, Try.ntmps7
    go_upto_region 8 with (first | ((with_reducible refine gate_callee (f := 5) rfl ?_); refine goesL_ (some 23) rfl rfl Try.func5 (by kernel_rfl) rfl #[] rfl (by (try simp only [List.map_toArray, List.map_cons, List.map_nil]); first | done | rfl | (simp only [List.length_drop, List.length_take]; rfl)) ?_; (with_reducible refine (tipstafflaw25_SliceKnown.calls k  t443 _ A6.out).mono ?_); rintro e w14 ⟨rfl, hb⟩; refine ⟨_, rfl, ?_⟩; have n0_ := Aside0.mk (below_step (by repeat (first | (with_reducible first | exact HB.out | apply below_alloc | apply pw_below_drewN | apply below_drew1) | exact HB.out)) hb); clear HB; have HB := n0_; clear n0_; (try clear hb); (try clear hb2); (try clear hk); (try clear hi)) | ((with_reducible refine gate_callee (f := 35) rfl ?_); refine goesL_ (some 27) rfl rfl Try.func35 (by kernel_rfl) rfl #[.int .i64 a0, .int .i64 a1, .slice A2 l2.length c2] rfl (by (try simp only [List.map_toArray, List.map_cons, List.map_nil]); first | done | rfl | (simp only [List.length_drop, List.length_take]; rfl)) ?_; (with_reducible refine (tipstafflaw25_made.calls k a0 a1 _ _ l2 t444 _ ?side1 ?side2 A7.out).mono ?_); (case side1 => repeat (first | exact (Kd.C_below HR2.out HB.out) | (with_reducible refine Kd.C_alloc ?_ _) | (with_reducible refine Kd.C_drewN ?_ _) | (with_reducible refine Kd.C_drew ?_))); (case side2 => exact HC2.out); rintro e w15 ⟨v445, rfl, ho0, hb⟩; refine ⟨_, rfl, ?_⟩; have n0_ := Aside0.mk (Kd.S_lower ho0 (below_size (by repeat (first | (with_reducible first | exact HB.out | apply below_alloc | apply pw_below_drewN | apply below_drew1) | exact HB.out)))); have n1_ := Aside0.mk (below_step (by repeat (first | (with_reducible first | exact HB.out | apply below_alloc | apply pw_below_drewN | apply below_drew1) | exact HB.out)) hb); clear HB; have HO446 := n0_; have HB := n1_; clear n0_ n1_; (try clear hb); (try clear hb2); (try clear hk); (try clear hi); (try clear ho0)) | ((with_reducible refine gate_callee (f := 36) rfl ?_); refine goesL_ (some 29) rfl rfl Try.func36 (by kernel_rfl) rfl #[.int .i64 a3, .int .i64 1048576] rfl (by (try simp only [List.map_toArray, List.map_cons, List.map_nil]); first | done | rfl | (simp only [List.length_drop, List.length_take]; rfl)) ?_; (with_reducible refine (tipstaffkit_Mod.calls a3 1048576 t447 _ A8.out).mono ?_); rintro e w' ⟨rfl, ⟨nd, rfl⟩⟩; refine ⟨_, rfl, ?_⟩; obtain ⟨Ao16, co16, eo16⟩ := Kd.S_slice HO446.out; subst eo16) | ((with_reducible refine gate_callee (f := 36) rfl ?_); refine goesL_ (some 43) rfl rfl Try.func36 (by kernel_rfl) rfl #[.int .i64 a4, .int .i64 5000] rfl (by (try simp only [List.map_toArray, List.map_cons, List.map_nil]); first | done | rfl | (simp only [List.length_drop, List.length_take]; rfl)) ?_; (with_reducible refine (tipstaffkit_Mod.calls a4 5000 t448 _ A10.out).mono ?_); rintro e w' ⟨rfl, ⟨nd, rfl⟩⟩; refine ⟨_, rfl, ?_⟩) | ((with_reducible refine gate_callee (f := 25) rfl ?_); refine goesL_ (some 50) rfl rfl Try.func25 (by kernel_rfl) rfl #[.slice Ao16 t444.length co16, .int .i64 (wrap64 (1 + (Int.tmod (wrap64 (Int.tdiv t447 32)) 20))), .int .i64 (wrap64 (1 + (Int.tmod t447 (t444.length : Int)))), .int .i64 (Int.tmod (wrap64 (Int.tdiv t447 8)) 4), .int .i64 t448] rfl (by (try simp only [List.map_toArray, List.map_cons, List.map_nil]); first | done | rfl | (simp only [List.length_drop, List.length_take]; rfl)) ?_; (with_reducible refine (slice_Next.calls k _ _ t444 (wrap64 (1 + (Int.tmod (wrap64 (Int.tdiv t447 32)) 20))) (wrap64 (1 + (Int.tmod t447 (t444.length : Int)))) (Int.tmod (wrap64 (Int.tdiv t447 8)) 4) t448 t449 t450 _ ?side1 ?side2 A11.out).mono ?_); (case side1 => repeat (first | exact (Kd.S_reads' HO446.out).2.2 | (with_reducible refine Kd.C_alloc ?_ _) | (with_reducible refine Kd.C_drewN ?_ _) | (with_reducible refine Kd.C_drew ?_))); (case side2 => exact (Kd.S_reads' HO446.out).2.1); rintro e w17 ⟨rfl, hb⟩; refine ⟨_, rfl, ?_⟩; have n0_ := Aside0.mk (Kd.S_below (by (with_reducible repeat (first | apply Kd.S_alloc | apply Kd.S_drewN | apply Kd.S_drew)); exact HO446.out) hb); have n1_ := Aside0.mk (below_step (by repeat (first | (with_reducible first | exact HB.out | apply below_alloc | apply pw_below_drewN | apply below_drew1) | exact HB.out)) hb); clear HO446; clear HB; have HO446 := n0_; have HB := n1_; clear n0_ n1_; (try clear hb); (try clear hb2); (try clear hk); (try clear hi)) | ((with_reducible refine gate_callee (f := 27) rfl ?_); refine goesL_ (some 57) rfl rfl Try.func27 (by kernel_rfl) rfl #[.slice Ao16 t444.length co16, .int .i64 (wrap64 (1 + (Int.tmod t447 (t444.length : Int)))), .int .i64 (Int.tmod (wrap64 (Int.tdiv t447 8)) 4)] rfl (by (try simp only [List.map_toArray, List.map_cons, List.map_nil]); first | done | rfl | (simp only [List.length_drop, List.length_take]; rfl)) ?_; (with_reducible refine (slice_Wait.calls k _ _ t444 (wrap64 (1 + (Int.tmod t447 (t444.length : Int)))) (Int.tmod (wrap64 (Int.tdiv t447 8)) 4) t451 t452 _ ?side1 ?side2 A12.out).mono ?_); (case side1 => repeat (first | exact (Kd.S_reads' HO446.out).2.2 | (with_reducible refine Kd.C_alloc ?_ _) | (with_reducible refine Kd.C_drewN ?_ _) | (with_reducible refine Kd.C_drew ?_))); (case side2 => exact (Kd.S_reads' HO446.out).2.1); rintro e w18 ⟨rfl, hb⟩; refine ⟨_, rfl, ?_⟩; have n0_ := Aside0.mk (Kd.S_below (by (with_reducible repeat (first | apply Kd.S_alloc | apply Kd.S_drewN | apply Kd.S_drew)); exact HO446.out) hb); have n1_ := Aside0.mk (below_step (by repeat (first | (with_reducible first | exact HB.out | apply below_alloc | apply pw_below_drewN | apply below_drew1) | exact HB.out)) hb); clear HO446; clear HB; have HO446 := n0_; have HB := n1_; clear n0_ n1_; (try clear hb); (try clear hb2); (try clear hk); (try clear hi)))
    (try simp only [Act.put, List.setIfInBounds_toArray, List.set_cons_zero, List.set_cons_succ])
    go_cut [65] (fun v65 wc => ∃ (kq : Nat) (x65_12 : Bool), v65 = .bool x65_12 ∧ Aside0 (tipstafflaw25_SliceNext.j0 kq t448 t443 t444 (wrap64 (1 + (Int.tmod t447 (t444.length : Int)))) (Int.tmod (wrap64 (Int.tdiv t447 8)) 4) (wrap64 (1 + (Int.tmod (wrap64 (Int.tdiv t447 32)) 20))) t449 t450 t451 t452 x65_12 = some r) ∧ Aside0 (kq ≤ k) ∧ Aside0 (Kd.S (Kd.slice 3 (Kd.int .i64)) 33 wc w.heap.size (fun _ => True) (.slice Ao16 t444.length co16) t444) ∧ Aside0 (Below w.heap.size w wc))
    case first =>
      have H := HC13.out
      clear HC13
      by_cases c19 : t450 = 6
      · rw [if_pos c19] at H
        have c19b0 : (t450 == 6) = true := beq_iff_eq.mpr c19
        have c19b1 : (t450 != 6) = false := bne_eq_false_iff_eq.mpr c19
        clear c19
        (first | rw [c19b0] | (simp only [i64_w, i32_w]; rw [c19b0]) | skip)
        have H' := Aside0.mk H
        clear H
        go_wp2
        go_meet
        case rel => exact ⟨_, (true), (by first | rfl | (simp; done) | (simp [*]; done)), H', ⟨by first | omega | exact Nat.le_refl _⟩, ⟨by (with_reducible repeat (first | apply Kd.S_alloc | apply Kd.S_drewN | apply Kd.S_drew)); exact HO446.out⟩, ⟨by repeat (first | (with_reducible first | exact HB.out | apply below_alloc | apply pw_below_drewN | apply below_drew1) | exact HB.out)⟩⟩
      · rw [if_neg c19] at H
        have c19b0 : (t450 == 6) = false := beq_eq_false_iff_ne.mpr c19
        have c19b1 : (t450 != 6) = true := bne_iff_ne.mpr c19
        (first | rw [c19b0] | (simp only [i64_w, i32_w]; rw [c19b0]) | skip)
        have H' := Aside0.mk H
        clear H
        go_wp2
        go_meet
        case rel => exact ⟨_, ((t452 == 6)), (by first | rfl | (simp; done) | (simp [*]; done)), H', ⟨by first | omega | exact Nat.le_refl _⟩, ⟨by (with_reducible repeat (first | apply Kd.S_alloc | apply Kd.S_drewN | apply Kd.S_drew)); exact HO446.out⟩, ⟨by repeat (first | (with_reducible first | exact HB.out | apply below_alloc | apply pw_below_drewN | apply below_drew1) | exact HB.out)⟩⟩
    case rest =>
      clear HC13
      try clear c1
      try clear c2
      try clear p2
      try clear c3
      try clear c5
      try clear p6
      try clear c7
      try clear c9
      try clear c9b0
      try clear c9b1
      try clear c9b2
      try clear c19
      try clear c19b0
      try clear c19b1
      obtain ⟨kq, x65_12, rfl, HA, HJ12, HO_12, HB⟩ := hcut
      cases kq with
      | zero => exact absurd HA.out (by simp [tipstafflaw25_SliceNext.j0])
      | succ kj12 =>
        have H := HA.out
        clear HA
        simp only [tipstafflaw25_SliceNext.j0] at H
        by_cases c20 : x65_12 = true
        · subst c20
          have H1 : (if t443 = true then (if t450 = t452 then (if 0 ≤ (wrap64 ((wrap64 (1 + (Int.tmod t447 (t444.length : Int)))) - 1)) then (if (wrap64 ((wrap64 (1 + (Int.tmod t447 (t444.length : Int)))) - 1)) < (t444.length : Int) then ((tipstaffkit_Has.f kj12 (rd_L1 t444 (wrap64 ((wrap64 (1 + (Int.tmod t447 (t444.length : Int)))) - 1))) (Int.tmod (wrap64 (Int.tdiv t447 8)) 4)).bind fun t454 => (some (!t454))) else (none)) else (none)) else (none)) else (none)) = some r := by rw [if_pos rfl] at H; exact H
          clear H
          have H := H1
          clear H1
          by_cases c21 : t443 = true
          · subst c21
            have H1 : (if t450 = t452 then (if 0 ≤ (wrap64 ((wrap64 (1 + (Int.tmod t447 (t444.length : Int)))) - 1)) then (if (wrap64 ((wrap64 (1 + (Int.tmod t447 (t444.length : Int)))) - 1)) < (t444.length : Int) then ((tipstaffkit_Has.f kj12 (rd_L1 t444 (wrap64 ((wrap64 (1 + (Int.tmod t447 (t444.length : Int)))) - 1))) (Int.tmod (wrap64 (Int.tdiv t447 8)) 4)).bind fun t454 => (some (!t454))) else (none)) else (none)) else (none)) = some r := by rw [if_pos rfl] at H; exact H
            clear H
            have H := H1
            clear H1
            by_cases c22 : t450 = t452
            · rw [if_pos c22] at H
              have c22b0 : (t450 == t452) = true := beq_iff_eq.mpr c22
              have c22b1 : (t450 != t452) = false := bne_eq_false_iff_eq.mpr c22
              clear c22
              obtain ⟨ji23, hji23⟩ : ∃ j_ : Int, (wrap64 ((wrap64 (1 + (Int.tmod t447 (t444.length : Int)))) - 1)) = j_ := ⟨_, rfl⟩
              replace H : (if 0 ≤ (ji23) then (if (ji23) < (t444.length : Int) then ((tipstaffkit_Has.f kj12 (rd_L1 t444 (ji23)) (Int.tmod (wrap64 (Int.tdiv t447 8)) 4)).bind fun t454 => (some (!t454))) else (none)) else (none)) = some r := by first | (rw [hji23] at H; exact H) | (simp only [hji23] at H ⊢; exact H)
              have hji23w : (IntKind.i64.wrap ((wrap64 (1 + (Int.tmod t447 (t444.length : Int)))) - 1)) = ji23 := (i64_w _).trans hji23
              by_cases c24 : 0 ≤ (ji23)
              · rw [if_pos c24] at H
                have c24b0 : decide (0 ≤ (ji23)) = true := decide_eq_true c24
                clear c24
                by_cases c25 : (ji23) < (t444.length : Int)
                · rw [if_pos c25] at H
                  have c25b0 : decide ((ji23) < (t444.length : Int)) = true := decide_eq_true c25
                  clear c25
                  replace H := Option.bind_eq_some_iff.mp H
                  obtain ⟨t454, A260, H⟩ := H
                  replace H : (some (!t454)) = some r := H
                  have A26 := Aside0.mk A260
                  clear A260
                  obtain rfl := Option.some.inj H
                  have p453 : 0 ≤ ((ji23) : Int) := of_decide_eq_true (by first | (with_reducible assumption) | assumption)
                  have q453 : (ji23) < (t444.length : Int) := of_decide_eq_true (by first | (with_reducible assumption) | assumption)
                  obtain ⟨ad453, A453_0, c453_0, e453, hx453_0, hl453_0, hi453_0⟩ := at_L1 (Kd.S_reads' HO_12.out).2.2 (ji23) p453 q453
                  cases e453
                  obtain ⟨ce453, hce453, hMe453, hcc453⟩ := Kd.S_get HO_12.out [] (ji23) p453 (by first | exact q453 | exact of_decide_eq_true (by first | (with_reducible assumption) | assumption) | (have e_ := (Kd.S_reads' HO_12.out).1; omega))
                  obtain ⟨ve453_0, rfl, ge453_0⟩ := hMe453
                  have hv453_0 := hcc453 0 _ rfl
                  rw [Nat.add_zero, show ((Kd.slice 3 (Kd.int .i64))).sz = 1 from rfl, Nat.mul_one] at hv453_0
                  replace hv453_0 := Option.some.inj (hv453_0.symm.trans hx453_0)
                  rw [hv453_0] at ge453_0
                  have HL453_0 := Aside0.mk (show Kd.R (Kd.int .i64) 3 _ _ _ _ (rd_L1 t444 (ji23)) from ge453_0)
                  clear hv453_0 ge453_0
                  clear hcc453 hce453
                  have HR453_0 := Aside0.mk hi453_0
                  have HC453_0 := Aside0.mk hl453_0
                  clear hi453_0 hl453_0
                  replace p453 := eq_true p453
                  replace q453 := eq_true q453
                  go_wp2_with (first | (go_at_call 37; (with_reducible refine (tipstaffkit_Has.calls kj12 _ _ (rd_L1 t444 (ji23)) (Int.tmod (wrap64 (Int.tdiv t447 8)) 4) t454 _ ?side1 ?side2 A26.out).mono ?_); (case side1 => repeat (first | exact (by repeat (first | (with_reducible exact HR453_0.out) | (with_reducible refine Kd.C_alloc ?_ _) | (with_reducible refine Kd.C_drewN ?_ _) | (with_reducible refine Kd.C_drew ?_) | exact HR453_0.out)) | (with_reducible refine Kd.C_alloc ?_ _) | (with_reducible refine Kd.C_drewN ?_ _) | (with_reducible refine Kd.C_drew ?_))); (case side2 => exact HC453_0.out); rintro e w' ⟨rfl, ⟨nd, rfl⟩⟩))
                  go_ret
                  exact ⟨by first | rfl | (simp [errW_none, errW_some] <;> rfl) | (simp only [← hji23]; first | rfl | (simp [errW_none, errW_some] <;> rfl)) | (simp [*, errW_none, errW_some] <;> rfl) | (simp (discharger := omega) only [Int.tdiv_eq_ediv_of_nonneg, Int.tmod_eq_emod_of_nonneg] <;> rfl), by repeat (first | (with_reducible first | exact HB.out | apply below_alloc | apply pw_below_drewN | apply below_drew1) | exact HB.out)⟩
                · rw [if_neg c25] at H
                  exact absurd H (by simp)
              · rw [if_neg c24] at H
                exact absurd H (by simp)
            · rw [if_neg c22] at H
              exact absurd H (by simp)
          · replace c21 := Bool.eq_false_iff.mpr c21
            subst c21
            have H1 : (none) = some r := by rw [if_neg (show ¬ (false = true) by decide)] at H; exact H
            clear H
            have H := H1
            clear H1
            exact absurd H (by simp)
        · replace c20 := Bool.eq_false_iff.mpr c20
          subst c20
          have H1 : (if t450 = 0 then (if t452 = 0 then (if t449 < t448 then (tipstafflaw25_SliceNext.j1 kj12 t448 t443 t444 (wrap64 (1 + (Int.tmod t447 (t444.length : Int)))) (Int.tmod (wrap64 (Int.tdiv t447 8)) 4) (wrap64 (1 + (Int.tmod (wrap64 (Int.tdiv t447 32)) 20))) t449 true) else (if (wrap64 (1 + (Int.tmod (wrap64 (Int.tdiv t447 32)) 20))) = 0 then (none) else (if (Int.tmod t449 (wrap64 (1 + (Int.tmod (wrap64 (Int.tdiv t447 32)) 20)))) = 0 then (tipstafflaw25_SliceNext.j1 kj12 t448 t443 t444 (wrap64 (1 + (Int.tmod t447 (t444.length : Int)))) (Int.tmod (wrap64 (Int.tdiv t447 8)) 4) (wrap64 (1 + (Int.tmod (wrap64 (Int.tdiv t447 32)) 20))) t449 (decide ((wrap64 (t449 - t448)) ≥ (wrap64 (t451 * (wrap64 (1 + (Int.tmod (wrap64 (Int.tdiv t447 32)) 20)))))))) else (tipstafflaw25_SliceNext.j1 kj12 t448 t443 t444 (wrap64 (1 + (Int.tmod t447 (t444.length : Int)))) (Int.tmod (wrap64 (Int.tdiv t447 8)) 4) (wrap64 (1 + (Int.tmod (wrap64 (Int.tdiv t447 32)) 20))) t449 true)))) else (tipstafflaw25_SliceNext.j1 kj12 t448 t443 t444 (wrap64 (1 + (Int.tmod t447 (t444.length : Int)))) (Int.tmod (wrap64 (Int.tdiv t447 8)) 4) (wrap64 (1 + (Int.tmod (wrap64 (Int.tdiv t447 32)) 20))) t449 true)) else (tipstafflaw25_SliceNext.j1 kj12 t448 t443 t444 (wrap64 (1 + (Int.tmod t447 (t444.length : Int)))) (Int.tmod (wrap64 (Int.tdiv t447 8)) 4) (wrap64 (1 + (Int.tmod (wrap64 (Int.tdiv t447 32)) 20))) t449 true)) = some r := by rw [if_neg (show ¬ (false = true) by decide)] at H; exact H
          clear H
          have H := H1
          clear H1
          have HC27 := Aside0.mk H
          clear H
          go_upto_region 10 with (fail)
          go_cut [107] (fun v107 wc => ∃ (kq : Nat) (x107_26 : Bool), v107 = .bool x107_26 ∧ Aside0 (tipstafflaw25_SliceNext.j1 kq t448 t443 t444 (wrap64 (1 + (Int.tmod t447 (t444.length : Int)))) (Int.tmod (wrap64 (Int.tdiv t447 8)) 4) (wrap64 (1 + (Int.tmod (wrap64 (Int.tdiv t447 32)) 20))) t449 x107_26 = some r) ∧ Aside0 (kq ≤ kj12) ∧ Aside0 (Kd.S (Kd.slice 3 (Kd.int .i64)) 33 wc w.heap.size (fun _ => True) (.slice Ao16 t444.length co16) t444) ∧ Aside0 (Below w.heap.size w wc))
          case first =>
            have H := HC27.out
            clear HC27
            by_cases c28 : t450 = 0
            · rw [if_pos c28] at H
              have c28b0 : (t450 == 0) = true := beq_iff_eq.mpr c28
              have c28b1 : (t450 != 0) = false := bne_eq_false_iff_eq.mpr c28
              clear c28
              (first | rw [c28b0] | (simp only [i64_w, i32_w]; rw [c28b0]) | skip)
              by_cases c29 : t452 = 0
              · rw [if_pos c29] at H
                have c29b0 : (t452 == 0) = true := beq_iff_eq.mpr c29
                have c29b1 : (t452 != 0) = false := bne_eq_false_iff_eq.mpr c29
                clear c29
                by_cases c30 : t449 < t448
                · rw [if_pos c30] at H
                  have c30b0 : decide (t449 < t448) = true := decide_eq_true c30
                  clear c30
                  have H' := Aside0.mk H
                  clear H
                  go_wp2
                  go_meet
                  case rel => exact ⟨_, (true), (by first | rfl | (simp; done) | (simp [*]; done)), H', ⟨by have := HJ12.out; first | omega | exact Nat.le_refl _⟩, ⟨by (with_reducible repeat (first | apply Kd.S_alloc | apply Kd.S_drewN | apply Kd.S_drew)); exact HO_12.out⟩, ⟨by repeat (first | (with_reducible first | exact HB.out | apply below_alloc | apply pw_below_drewN | apply below_drew1) | exact HB.out)⟩⟩
                · rw [if_neg c30] at H
                  have c30b0 : decide (t449 < t448) = false := decide_eq_false c30
                  clear c30
                  by_cases c31 : (wrap64 (1 + (Int.tmod (wrap64 (Int.tdiv t447 32)) 20))) = 0
                  · rw [if_pos c31] at H
                    exact absurd H (by simp)
                  · rw [if_neg c31] at H
                    have c31b0 : ((wrap64 (1 + (Int.tmod (wrap64 (Int.tdiv t447 32)) 20))) == 0) = false := beq_eq_false_iff_ne.mpr c31
                    have c31b1 : ((wrap64 (1 + (Int.tmod (wrap64 (Int.tdiv t447 32)) 20))) != 0) = true := bne_iff_ne.mpr c31
                    by_cases c32 : (Int.tmod t449 (wrap64 (1 + (Int.tmod (wrap64 (Int.tdiv t447 32)) 20)))) = 0
                    · rw [if_pos c32] at H
                      have c32b0 : ((Int.tmod t449 (wrap64 (1 + (Int.tmod (wrap64 (Int.tdiv t447 32)) 20)))) == 0) = true := beq_iff_eq.mpr c32
                      have c32b1 : ((Int.tmod t449 (wrap64 (1 + (Int.tmod (wrap64 (Int.tdiv t447 32)) 20)))) != 0) = false := bne_eq_false_iff_eq.mpr c32
                      clear c32
                      have H' := Aside0.mk H
                      clear H
                      go_wp2
                      go_meet
                      case rel => exact ⟨_, (decide ((wrap64 (t449 - t448)) ≥ (wrap64 (t451 * (wrap64 (1 + (Int.tmod (wrap64 (Int.tdiv t447 32)) 20))))))), (by first | rfl | (simp; done) | (simp [*]; done)), H', ⟨by have := HJ12.out; first | omega | exact Nat.le_refl _⟩, ⟨by (with_reducible repeat (first | apply Kd.S_alloc | apply Kd.S_drewN | apply Kd.S_drew)); exact HO_12.out⟩, ⟨by repeat (first | (with_reducible first | exact HB.out | apply below_alloc | apply pw_below_drewN | apply below_drew1) | exact HB.out)⟩⟩
                    · rw [if_neg c32] at H
                      have c32b0 : ((Int.tmod t449 (wrap64 (1 + (Int.tmod (wrap64 (Int.tdiv t447 32)) 20)))) == 0) = false := beq_eq_false_iff_ne.mpr c32
                      have c32b1 : ((Int.tmod t449 (wrap64 (1 + (Int.tmod (wrap64 (Int.tdiv t447 32)) 20)))) != 0) = true := bne_iff_ne.mpr c32
                      have H' := Aside0.mk H
                      clear H
                      go_wp2
                      go_meet
                      case rel => exact ⟨_, (true), (by first | rfl | (simp; done) | (simp [*]; done)), H', ⟨by have := HJ12.out; first | omega | exact Nat.le_refl _⟩, ⟨by (with_reducible repeat (first | apply Kd.S_alloc | apply Kd.S_drewN | apply Kd.S_drew)); exact HO_12.out⟩, ⟨by repeat (first | (with_reducible first | exact HB.out | apply below_alloc | apply pw_below_drewN | apply below_drew1) | exact HB.out)⟩⟩
              · rw [if_neg c29] at H
                have c29b0 : (t452 == 0) = false := beq_eq_false_iff_ne.mpr c29
                have c29b1 : (t452 != 0) = true := bne_iff_ne.mpr c29
                have H' := Aside0.mk H
                clear H
                go_wp2
                go_meet
                case rel => exact ⟨_, (true), (by first | rfl | (simp; done) | (simp [*]; done)), H', ⟨by have := HJ12.out; first | omega | exact Nat.le_refl _⟩, ⟨by (with_reducible repeat (first | apply Kd.S_alloc | apply Kd.S_drewN | apply Kd.S_drew)); exact HO_12.out⟩, ⟨by repeat (first | (with_reducible first | exact HB.out | apply below_alloc | apply pw_below_drewN | apply below_drew1) | exact HB.out)⟩⟩
            · rw [if_neg c28] at H
              have c28b0 : (t450 == 0) = false := beq_eq_false_iff_ne.mpr c28
              have c28b1 : (t450 != 0) = true := bne_iff_ne.mpr c28
              (first | rw [c28b0] | (simp only [i64_w, i32_w]; rw [c28b0]) | skip)
              have H' := Aside0.mk H
              clear H
              go_wp2
              go_meet
              case rel => exact ⟨_, (true), (by first | rfl | (simp; done) | (simp [*]; done)), H', ⟨by have := HJ12.out; first | omega | exact Nat.le_refl _⟩, ⟨by (with_reducible repeat (first | apply Kd.S_alloc | apply Kd.S_drewN | apply Kd.S_drew)); exact HO_12.out⟩, ⟨by repeat (first | (with_reducible first | exact HB.out | apply below_alloc | apply pw_below_drewN | apply below_drew1) | exact HB.out)⟩⟩
          case rest =>
            clear HC27
            try clear c1
            try clear c2
            try clear p2
            try clear c3
            try clear c4
            try clear p4
            try clear q4
            try clear hx4
            try clear c5
            try clear p6
            try clear c7
            try clear c9
            try clear c9b0
            try clear c9b1
            try clear c9b2
            try clear c19
            try clear c19b0
            try clear c19b1
            try clear c20
            try clear c21
            try clear c22
            try clear c22b0
            try clear c22b1
            try clear c24
            try clear c24b0
            try clear c25
            try clear c25b0
            try clear c27
            try clear c28
            try clear c28b0
            try clear c28b1
            try clear c29
            try clear c29b0
            try clear c29b1
            try clear c30
            try clear c30b0
            try clear c31
            try clear c31b0
            try clear c31b1
            try clear c32
            try clear c32b0
            try clear c32b1
            try clear hx453_0
            try clear p2
            try clear p453
            try clear p6
            try clear q453
            obtain ⟨kq, x107_26, rfl, HA, HJ26, HO_12, HB⟩ := hcut
            cases kq with
            | zero => exact absurd HA.out (by simp [tipstafflaw25_SliceNext.j1])
            | succ kj26 =>
              have H := HA.out
              clear HA
              simp only [tipstafflaw25_SliceNext.j1] at H
              by_cases c33 : x107_26 = true
              · subst c33
                have H1 : (none) = some r := by rw [if_pos rfl] at H; exact H
                clear H
                have H := H1
                clear H1
                exact absurd H (by simp)
              · replace c33 := Bool.eq_false_iff.mpr c33
                subst c33
                have H1 : (tipstafflaw25_SliceNext.l0 kj26 t443 t444 (wrap64 (1 + (Int.tmod t447 (t444.length : Int)))) (Int.tmod (wrap64 (Int.tdiv t447 8)) 4) (wrap64 (1 + (Int.tmod (wrap64 (Int.tdiv t447 32)) 20))) t449 t448) = some r := by rw [if_neg (show ¬ (false = true) by decide)] at H; exact H
                clear H
                have H := H1
                clear H1
                have H' := Aside0.mk H
                clear H
                go_wp2
                go_loopg [20] kj26 (fun kq v20 w' => ∃ (x20_3 : Int), v20 = .int .i64 x20_3 ∧ Aside0 (tipstafflaw25_SliceNext.l0 kq t443 t444 (wrap64 (1 + (Int.tmod t447 (t444.length : Int)))) (Int.tmod (wrap64 (Int.tdiv t447 8)) 4) (wrap64 (1 + (Int.tmod (wrap64 (Int.tdiv t447 32)) 20))) t449 x20_3 = some r) ∧ Aside0 (kq ≤ kj26) ∧ Aside0 (Kd.S (Kd.slice 3 (Kd.int .i64)) 33 w' w.heap.size (fun _ => True) (.slice Ao16 t444.length co16) t444) ∧ Aside0 (Below w.heap.size w w'))
                case atStart => exact ⟨(t448), (by first | rfl | (simp; done) | (simp [*]; done)), H', ⟨Nat.le_refl _⟩, ⟨by (with_reducible repeat (first | apply Kd.S_alloc | apply Kd.S_drewN | apply Kd.S_drew)); exact HO_12.out⟩, ⟨by repeat (first | (with_reducible first | exact HB.out | apply below_alloc | apply pw_below_drewN | apply below_drew1) | exact HB.out)⟩⟩
                case round =>
                  clear H'
                  try clear c1
                  try clear c2
                  try clear p2
                  try clear c3
                  try clear c4
                  try clear p4
                  try clear q4
                  try clear hx4
                  try clear c5
                  try clear p6
                  try clear c7
                  try clear c9
                  try clear c9b0
                  try clear c9b1
                  try clear c9b2
                  try clear c19
                  try clear c19b0
                  try clear c19b1
                  try clear c20
                  try clear c21
                  try clear c22
                  try clear c22b0
                  try clear c22b1
                  try clear c24
                  try clear c24b0
                  try clear c25
                  try clear c25b0
                  try clear c27
                  try clear c28
                  try clear c28b0
                  try clear c28b1
                  try clear c29
                  try clear c29b0
                  try clear c29b1
                  try clear c30
                  try clear c30b0
                  try clear c31
                  try clear c31b0
                  try clear c31b1
                  try clear c32
                  try clear c32b0
                  try clear c32b1
                  try clear c33
                  try clear hx453_0
                  try clear p2
                  try clear p4
                  try clear p453
                  try clear p6
                  try clear q4
                  try clear q453
                  obtain ⟨x20_3, rfl, HA, HK3, HO_12, HB⟩ := hrel
                  cases gk with
                  | zero => exact absurd HA.out (by simp [tipstafflaw25_SliceNext.l0])
                  | succ k3 =>
                    have H := HA.out
                    clear HA
                    simp only [tipstafflaw25_SliceNext.l0] at H
                    by_cases c34 : x20_3 ≤ t449
                    · rw [if_pos c34] at H
                      have c34b0 : decide (x20_3 ≤ t449) = true := decide_eq_true c34
                      clear c34
                      replace H := Option.bind_eq_some_iff.mp H
                      obtain ⟨⟨t455, t456⟩, A350, H⟩ := H
                      replace H : (if t456 = 0 then (if (wrap64 (1 + (Int.tmod (wrap64 (Int.tdiv t447 32)) 20))) = 0 then (none) else (if (Int.tmod x20_3 (wrap64 (1 + (Int.tmod (wrap64 (Int.tdiv t447 32)) 20)))) = 0 then (if ((t455 == (Int.tmod (wrap64 (Int.tdiv t447 8)) 4)) != (x20_3 == t449)) = true then (none) else (tipstafflaw25_SliceNext.l0 k3 t443 t444 (wrap64 (1 + (Int.tmod t447 (t444.length : Int)))) (Int.tmod (wrap64 (Int.tdiv t447 8)) 4) (wrap64 (1 + (Int.tmod (wrap64 (Int.tdiv t447 32)) 20))) t449 (wrap64 (x20_3 + 1)))) else (if (false != (x20_3 == t449)) = true then (none) else (tipstafflaw25_SliceNext.l0 k3 t443 t444 (wrap64 (1 + (Int.tmod t447 (t444.length : Int)))) (Int.tmod (wrap64 (Int.tdiv t447 8)) 4) (wrap64 (1 + (Int.tmod (wrap64 (Int.tdiv t447 32)) 20))) t449 (wrap64 (x20_3 + 1)))))) else (none)) = some r := H
                      have A35 := Aside0.mk A350
                      clear A350
                      by_cases c36 : t456 = 0
                      · rw [if_pos c36] at H
                        have c36b0 : (t456 == 0) = true := beq_iff_eq.mpr c36
                        have c36b1 : (t456 != 0) = false := bne_eq_false_iff_eq.mpr c36
                        clear c36
                        by_cases c37 : (wrap64 (1 + (Int.tmod (wrap64 (Int.tdiv t447 32)) 20))) = 0
                        · rw [if_pos c37] at H
                          exact absurd H (by simp)
                        · rw [if_neg c37] at H
                          have c37b0 : ((wrap64 (1 + (Int.tmod (wrap64 (Int.tdiv t447 32)) 20))) == 0) = false := beq_eq_false_iff_ne.mpr c37
                          have c37b1 : ((wrap64 (1 + (Int.tmod (wrap64 (Int.tdiv t447 32)) 20))) != 0) = true := bne_iff_ne.mpr c37
                          by_cases c38 : (Int.tmod x20_3 (wrap64 (1 + (Int.tmod (wrap64 (Int.tdiv t447 32)) 20)))) = 0
                          · rw [if_pos c38] at H
                            have c38b0 : ((Int.tmod x20_3 (wrap64 (1 + (Int.tmod (wrap64 (Int.tdiv t447 32)) 20)))) == 0) = true := beq_iff_eq.mpr c38
                            have c38b1 : ((Int.tmod x20_3 (wrap64 (1 + (Int.tmod (wrap64 (Int.tdiv t447 32)) 20)))) != 0) = false := bne_eq_false_iff_eq.mpr c38
                            clear c38
                            by_cases c39 : ((t455 == (Int.tmod (wrap64 (Int.tdiv t447 8)) 4)) != (x20_3 == t449)) = true
                            · rw [if_pos c39] at H
                              exact absurd H (by simp)
                            · rw [if_neg c39] at H
                              have c39b0 : ((t455 == (Int.tmod (wrap64 (Int.tdiv t447 8)) 4)) != (x20_3 == t449)) = false := by simpa using c39
                              (try (have c39b1 : decide ((t455 == (Int.tmod (wrap64 (Int.tdiv t447 8)) 4)) = (x20_3 == t449)) = true := by simpa using c39))
                              (try (have c39b2 : ((t455 == (Int.tmod (wrap64 (Int.tdiv t447 8)) 4)) == (x20_3 == t449)) = true := by simpa using c39))
                              clear c39
                              have H' := Aside0.mk H
                              clear H
                              go_wp2_with (first | ((with_reducible refine gate_callee (f := 15) rfl ?_); refine goesL_ (some 119) rfl rfl Try.func15 (by kernel_rfl) rfl #[.slice Ao16 t444.length co16, .int .i64 (wrap64 (1 + (Int.tmod (wrap64 (Int.tdiv t447 32)) 20))), .int .i64 (wrap64 (1 + (Int.tmod t447 (t444.length : Int)))), .int .i64 x20_3] rfl (by (try simp only [List.map_toArray, List.map_cons, List.map_nil]); first | done | rfl | (simp only [List.length_drop, List.length_take]; rfl)) ?_; (with_reducible refine (slice_Domain.calls k3 _ _ t444 (wrap64 (1 + (Int.tmod (wrap64 (Int.tdiv t447 32)) 20))) (wrap64 (1 + (Int.tmod t447 (t444.length : Int)))) x20_3 t455 t456 _ ?side1 ?side2 A35.out).mono ?_); (case side1 => repeat (first | exact (Kd.S_reads' HO_12.out).2.2 | (with_reducible refine Kd.C_alloc ?_ _) | (with_reducible refine Kd.C_drewN ?_ _) | (with_reducible refine Kd.C_drew ?_))); (case side2 => exact (Kd.S_reads' HO_12.out).2.1); rintro e w40 ⟨rfl, hb⟩; refine ⟨_, rfl, ?_⟩; have n0_ := Aside0.mk (Kd.S_below (by (with_reducible repeat (first | apply Kd.S_alloc | apply Kd.S_drewN | apply Kd.S_drew)); exact HO_12.out) hb); have n1_ := Aside0.mk (below_step (by repeat (first | (with_reducible first | exact HB.out | apply below_alloc | apply pw_below_drewN | apply below_drew1) | exact HB.out)) hb); clear HO_12; clear HB; have HO_12 := n0_; have HB := n1_; clear n0_ n1_; (try clear hb); (try clear hb2); (try clear hk); (try clear hi)))
                              go_roundg k3
                              case measure => have := HJ12.out; have := HJ26.out; have := HK3.out; omega
                              case rel => exact ⟨(wrap64 (x20_3 + 1)), (by first | rfl | (simp; done) | (simp [*]; done)), H', ⟨by have := HJ12.out; have := HJ26.out; have := HK3.out; omega⟩, ⟨by (with_reducible repeat (first | apply Kd.S_alloc | apply Kd.S_drewN | apply Kd.S_drew)); exact HO_12.out⟩, ⟨by repeat (first | (with_reducible first | exact HB.out | apply below_alloc | apply pw_below_drewN | apply below_drew1) | exact HB.out)⟩⟩
                          · rw [if_neg c38] at H
                            have c38b0 : ((Int.tmod x20_3 (wrap64 (1 + (Int.tmod (wrap64 (Int.tdiv t447 32)) 20)))) == 0) = false := beq_eq_false_iff_ne.mpr c38
                            have c38b1 : ((Int.tmod x20_3 (wrap64 (1 + (Int.tmod (wrap64 (Int.tdiv t447 32)) 20)))) != 0) = true := bne_iff_ne.mpr c38
                            by_cases c41 : (false != (x20_3 == t449)) = true
                            · rw [if_pos c41] at H
                              exact absurd H (by simp)
                            · rw [if_neg c41] at H
                              have c41b0 : (false != (x20_3 == t449)) = false := by simpa using c41
                              (try (have c41b1 : decide (false = (x20_3 == t449)) = true := by simpa using c41))
                              (try (have c41b2 : (false == (x20_3 == t449)) = true := by simpa using c41))
                              clear c41
                              have H' := Aside0.mk H
                              clear H
                              go_wp2_with (first | ((with_reducible refine gate_callee (f := 15) rfl ?_); refine goesL_ (some 119) rfl rfl Try.func15 (by kernel_rfl) rfl #[.slice Ao16 t444.length co16, .int .i64 (wrap64 (1 + (Int.tmod (wrap64 (Int.tdiv t447 32)) 20))), .int .i64 (wrap64 (1 + (Int.tmod t447 (t444.length : Int)))), .int .i64 x20_3] rfl (by (try simp only [List.map_toArray, List.map_cons, List.map_nil]); first | done | rfl | (simp only [List.length_drop, List.length_take]; rfl)) ?_; (with_reducible refine (slice_Domain.calls k3 _ _ t444 (wrap64 (1 + (Int.tmod (wrap64 (Int.tdiv t447 32)) 20))) (wrap64 (1 + (Int.tmod t447 (t444.length : Int)))) x20_3 t455 t456 _ ?side1 ?side2 A35.out).mono ?_); (case side1 => repeat (first | exact (Kd.S_reads' HO_12.out).2.2 | (with_reducible refine Kd.C_alloc ?_ _) | (with_reducible refine Kd.C_drewN ?_ _) | (with_reducible refine Kd.C_drew ?_))); (case side2 => exact (Kd.S_reads' HO_12.out).2.1); rintro e w42 ⟨rfl, hb⟩; refine ⟨_, rfl, ?_⟩; have n0_ := Aside0.mk (Kd.S_below (by (with_reducible repeat (first | apply Kd.S_alloc | apply Kd.S_drewN | apply Kd.S_drew)); exact HO_12.out) hb); have n1_ := Aside0.mk (below_step (by repeat (first | (with_reducible first | exact HB.out | apply below_alloc | apply pw_below_drewN | apply below_drew1) | exact HB.out)) hb); clear HO_12; clear HB; have HO_12 := n0_; have HB := n1_; clear n0_ n1_; (try clear hb); (try clear hb2); (try clear hk); (try clear hi)))
                              go_roundg k3
                              case measure => have := HJ12.out; have := HJ26.out; have := HK3.out; omega
                              case rel => exact ⟨(wrap64 (x20_3 + 1)), (by first | rfl | (simp; done) | (simp [*]; done)), H', ⟨by have := HJ12.out; have := HJ26.out; have := HK3.out; omega⟩, ⟨by (with_reducible repeat (first | apply Kd.S_alloc | apply Kd.S_drewN | apply Kd.S_drew)); exact HO_12.out⟩, ⟨by repeat (first | (with_reducible first | exact HB.out | apply below_alloc | apply pw_below_drewN | apply below_drew1) | exact HB.out)⟩⟩
                      · rw [if_neg c36] at H
                        exact absurd H (by simp)
                    · rw [if_neg c34] at H
                      have c34b0 : decide (x20_3 ≤ t449) = false := decide_eq_false c34
                      clear c34
                      obtain rfl := Option.some.inj H
                      go_wp2
                      go_ret
                      exact ⟨by first | rfl | (simp [errW_none, errW_some] <;> rfl) | (simp [*, errW_none, errW_some] <;> rfl) | (simp (discharger := omega) only [Int.tdiv_eq_ediv_of_nonneg, Int.tmod_eq_emod_of_nonneg] <;> rfl), by repeat (first | (with_reducible first | exact HB.out | apply below_alloc | apply pw_below_drewN | apply below_drew1) | exact HB.out)⟩

/-- THE ONE PURE STATEMENT of tipstafflaw25_SliceNext: yours. -/
def tipstafflaw25_SliceNext.Pure : Prop := ∀ (a0 : Int) (a1 : Int) (l2 : List Int) (a3 : Int) (a4 : Int), (Lit.int .i64 a0).wf = true → (Lit.int .i64 a1).wf = true → l2.length ≤ maxLen → l2.length * 8 ≤ 140737488351232 → (∀ x ∈ l2, (Lit.int .i64 x).wf = true) → (Lit.int .i64 a3).wf = true → (Lit.int .i64 a4).wf = true → ∃ k, tipstafflaw25_SliceNext.f k a0 a1 l2 a3 a4 = some true
theorem tipstafflaw25_SliceNext.walk (P : tipstafflaw25_SliceNext.Pure) (a0 : Int) (a1 : Int) (a2 : Option Addr) (len2 cap2 : Nat) (z2 : List Int) (a3 : Int) (a4 : Int) (w : World) (w0 : (Lit.int .i64 a0).wf = true) (w1 : (Lit.int .i64 a1).wf = true) (w2 : (a2 = none ∧ len2 = 0 ∧ cap2 = 0 ∧ z2 = []) ∨ ∃ x, a2 = some x ∧ len2 ≤ cap2 ∧ cap2 ≤ maxLen ∧ z2.length = cap2 ∧ (∀ i, i < z2.length → w.cell? (x.add i) = some (.int .i64 (z2.getD i 0))) ∧ ∀ n ∈ z2, (Lit.int .i64 n).wf = true) (y2 : len2 * 8 ≤ 140737488351232) (w3 : (Lit.int .i64 a3).wf = true) (w4 : (Lit.int .i64 a4).wf = true) :
    Calls Try.prog 7 #[.int .i64 a0, .int .i64 a1, .slice a2 len2 cap2, .int .i64 a3, .int .i64 a4] w fun e w' => e = .returned (.bool true) ∧ Below w.heap.size w w' := by
  obtain ⟨l2, rfl, hr2, hm2, hw2, hc2⟩ := ReadsInt.ofRowC w2
  obtain ⟨k, h⟩ := P a0 a1 l2 a3 a4 w0 w1 hm2 y2 hw2 w3 w4
  refine (tipstafflaw25_SliceNext.calls k a0 a1 _ _ l2 a3 a4 true w (Kd.C_of_reads (d := (0 : Int)) (h1 := fun _ => rfl) hr2) hc2 h).mono ?_
  rintro e w' ⟨rfl, hd⟩
  exact ⟨rfl, hd⟩

end Go.Proofs.Ythcgcfjcjikjmaa.S
