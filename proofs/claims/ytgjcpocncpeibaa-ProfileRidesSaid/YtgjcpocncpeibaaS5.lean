-- PRINTED by print.py (a twelfth state) out of the translation. Not trusted: Lean checks it.
import Derived.Test.YtgjcpocncpeibaaS0
import Derived.Test.YtgjcpocncpeibaaS1
import Derived.Test.YtgjcpocncpeibaaS2
import Derived.Test.YtgjcpocncpeibaaS4
namespace Go.Proofs.Ytgjcpocncpeibaa.S
open Go.RowKit Go.Proofs.YtgjcpocncpeibaaW.PrintWords Go.Proofs.YtgjcpocncpeibaaW.PrintLast Go.Proofs.YtgjcpocncpeibaaW.PrintMore
attribute [local go_sem] Go.Proofs.YtgjcpocncpeibaaW.PrintXtra.isSome_setCell max2_int min2_int max_two min_two max_three min_three max_four min_four   -- for this text's walks alone
set_option linter.unusedVariables false
set_option linter.unusedSimpArgs false

/-! ### tipstafflaw08_ProfileLeast: function 3 -/
mutual
def tipstafflaw08_ProfileLeast.j0 : Nat → Int → Int → Int → Bool → Option (Bool)
  | 0, _, _, _, _ => none
  | k + 1, x5, x6, x7, x32 => if x32 = true then (some false) else (tipstafflaw08_ProfileLeast.l0 k x5 x6 x7 0 1)
def tipstafflaw08_ProfileLeast.l0 : Nat → Int → Int → Int → Int → Int → Option (Bool)
  | 0, _, _, _, _, _ => none
  | k + 1, x5, x6, x7, x9, x10 => if x10 ≤ (wrap64 (x7 - 1)) then (tipstafflaw08_ProfileLeast.l0 k x5 x6 x7 (wrap64 (x9 + (mn (mn x10 (wrap64 (x7 - x10))) x6))) (wrap64 (x10 + 1))) else (if x9 < x5 then ((tipstafflaw08_awake.f k).bind fun t127 => (some t127)) else (some false))
end
def tipstafflaw08_ProfileLeast.f (k : Nat) (a0 : Int) (a1 : Int) : Option (Bool) := (tipstaffkit_Mod.f a0 400).bind fun t123 => ((tipstaffkit_Mod.f a1 20).bind fun t124 => ((profile_Travel.f k (wrap64 (1 + t123)) (wrap64 (1 + t124))).bind fun bt125 => (if bt125.2 = 0 then (if bt125.1 < 1 then (tipstafflaw08_ProfileLeast.j0 k (wrap64 (1 + t123)) (wrap64 (1 + t124)) bt125.1 true) else (tipstafflaw08_ProfileLeast.j0 k (wrap64 (1 + t123)) (wrap64 (1 + t124)) bt125.1 (decide (bt125.1 > 500)))) else (tipstafflaw08_ProfileLeast.j0 k (wrap64 (1 + t123)) (wrap64 (1 + t124)) bt125.1 true))))
theorem tipstafflaw08_ProfileLeast.mono_l : ∀ k, (∀ y0 y1 y2 y3, LeO (tipstafflaw08_ProfileLeast.j0 k y0 y1 y2 y3) (tipstafflaw08_ProfileLeast.j0 (k + 1) y0 y1 y2 y3)) ∧ (∀ y0 y1 y2 y3 y4, LeO (tipstafflaw08_ProfileLeast.l0 k y0 y1 y2 y3 y4) (tipstafflaw08_ProfileLeast.l0 (k + 1) y0 y1 y2 y3 y4))
  | 0 => ⟨fun _ _ _ _ r h => by simp [tipstafflaw08_ProfileLeast.j0] at h, fun _ _ _ _ _ r h => by simp [tipstafflaw08_ProfileLeast.l0] at h⟩
  | k + 1 => by
    obtain ⟨ih0, ih1⟩ := tipstafflaw08_ProfileLeast.mono_l k
    refine ⟨?_, ?_⟩
    · intro y0 y1 y2 y3
      unfold tipstafflaw08_ProfileLeast.j0
      repeat' first
      | (with_reducible exact ih0 _ _ _ _)
      | (with_reducible exact ih1 _ _ _ _ _)
      | (with_reducible exact profile_Travel.mono _ _ _)
      | (with_reducible exact tipstafflaw08_awake.mono _)
      | (with_reducible exact LeO.refl _)
      | (with_reducible exact LeO.none _)
      | (with_reducible refine LeO.ite ?_ ?_)
      | (with_reducible refine LeO.bind ?_ (fun _ => ?_))
      | exact ih0 _ _ _ _
      | exact ih1 _ _ _ _ _
      | exact profile_Travel.mono _ _ _
      | exact tipstafflaw08_awake.mono _
      | exact LeO.none _
      | refine LeO.ite ?_ ?_
      | refine LeO.bind ?_ (fun _ => ?_)
    · intro y0 y1 y2 y3 y4
      unfold tipstafflaw08_ProfileLeast.l0
      repeat' first
      | (with_reducible exact ih0 _ _ _ _)
      | (with_reducible exact ih1 _ _ _ _ _)
      | (with_reducible exact profile_Travel.mono _ _ _)
      | (with_reducible exact tipstafflaw08_awake.mono _)
      | (with_reducible exact LeO.refl _)
      | (with_reducible exact LeO.none _)
      | (with_reducible refine LeO.ite ?_ ?_)
      | (with_reducible refine LeO.bind ?_ (fun _ => ?_))
      | exact ih0 _ _ _ _
      | exact ih1 _ _ _ _ _
      | exact profile_Travel.mono _ _ _
      | exact tipstafflaw08_awake.mono _
      | exact LeO.none _
      | refine LeO.ite ?_ ?_
      | refine LeO.bind ?_ (fun _ => ?_)
theorem tipstafflaw08_ProfileLeast.mono : ∀ a0 a1 k, LeO (tipstafflaw08_ProfileLeast.f k a0 a1) (tipstafflaw08_ProfileLeast.f (k + 1) a0 a1) := by
  intro a0 a1 k
  obtain ⟨ih0, ih1⟩ := tipstafflaw08_ProfileLeast.mono_l k
  unfold tipstafflaw08_ProfileLeast.f
  repeat' first
      | (with_reducible exact ih0 _ _ _ _)
      | (with_reducible exact ih1 _ _ _ _ _)
      | (with_reducible exact profile_Travel.mono _ _ _)
      | (with_reducible exact tipstafflaw08_awake.mono _)
      | (with_reducible exact LeO.refl _)
      | (with_reducible exact LeO.none _)
      | (with_reducible refine LeO.ite ?_ ?_)
      | (with_reducible refine LeO.bind ?_ (fun _ => ?_))
      | exact ih0 _ _ _ _
      | exact ih1 _ _ _ _ _
      | exact profile_Travel.mono _ _ _
      | exact tipstafflaw08_awake.mono _
      | exact LeO.none _
      | refine LeO.ite ?_ ?_
      | refine LeO.bind ?_ (fun _ => ?_)
set_option maxHeartbeats 8000000 in
set_option maxRecDepth 100000 in
theorem tipstafflaw08_ProfileLeast.calls (k : Nat) (a0 : Int) (a1 : Int) (r : Bool) (w : World) (h : tipstafflaw08_ProfileLeast.f k a0 a1 = some r) :
    Calls Try.prog 3 #[.int .i64 a0, .int .i64 a1] w fun e w' => e = .returned (.bool r) ∧ Below w.heap.size w w' := by
  have HB := Aside0.mk (Below.refl w.heap.size w)
  have H : ((tipstaffkit_Mod.f a0 400).bind fun t123 => ((tipstaffkit_Mod.f a1 20).bind fun t124 => ((profile_Travel.f k (wrap64 (1 + t123)) (wrap64 (1 + t124))).bind fun bt125 => (if bt125.2 = 0 then (if bt125.1 < 1 then (tipstafflaw08_ProfileLeast.j0 k (wrap64 (1 + t123)) (wrap64 (1 + t124)) bt125.1 true) else (tipstafflaw08_ProfileLeast.j0 k (wrap64 (1 + t123)) (wrap64 (1 + t124)) bt125.1 (decide (bt125.1 > 500)))) else (tipstafflaw08_ProfileLeast.j0 k (wrap64 (1 + t123)) (wrap64 (1 + t124)) bt125.1 true))))) = some r := h
  clear h
  replace H := Option.bind_eq_some_iff.mp H
  obtain ⟨t123, A30, H⟩ := H
  replace H : ((tipstaffkit_Mod.f a1 20).bind fun t124 => ((profile_Travel.f k (wrap64 (1 + t123)) (wrap64 (1 + t124))).bind fun bt125 => (if bt125.2 = 0 then (if bt125.1 < 1 then (tipstafflaw08_ProfileLeast.j0 k (wrap64 (1 + t123)) (wrap64 (1 + t124)) bt125.1 true) else (tipstafflaw08_ProfileLeast.j0 k (wrap64 (1 + t123)) (wrap64 (1 + t124)) bt125.1 (decide (bt125.1 > 500)))) else (tipstafflaw08_ProfileLeast.j0 k (wrap64 (1 + t123)) (wrap64 (1 + t124)) bt125.1 true)))) = some r := H
  have A3 := Aside0.mk A30
  clear A30
  replace H := Option.bind_eq_some_iff.mp H
  obtain ⟨t124, A40, H⟩ := H
  replace H : ((profile_Travel.f k (wrap64 (1 + t123)) (wrap64 (1 + t124))).bind fun bt125 => (if bt125.2 = 0 then (if bt125.1 < 1 then (tipstafflaw08_ProfileLeast.j0 k (wrap64 (1 + t123)) (wrap64 (1 + t124)) bt125.1 true) else (tipstafflaw08_ProfileLeast.j0 k (wrap64 (1 + t123)) (wrap64 (1 + t124)) bt125.1 (decide (bt125.1 > 500)))) else (tipstafflaw08_ProfileLeast.j0 k (wrap64 (1 + t123)) (wrap64 (1 + t124)) bt125.1 true))) = some r := H
  have A4 := Aside0.mk A40
  clear A40
  replace H := Option.bind_eq_some_iff.mp H
  obtain ⟨⟨t125, t126⟩, A50, H⟩ := H
  replace H : (if t126 = 0 then (if t125 < 1 then (tipstafflaw08_ProfileLeast.j0 k (wrap64 (1 + t123)) (wrap64 (1 + t124)) t125 true) else (tipstafflaw08_ProfileLeast.j0 k (wrap64 (1 + t123)) (wrap64 (1 + t124)) t125 (decide (t125 > 500)))) else (tipstafflaw08_ProfileLeast.j0 k (wrap64 (1 + t123)) (wrap64 (1 + t124)) t125 true)) = some r := H
  have A5 := Aside0.mk A50
  clear A50
  have HC6 := Aside0.mk H
  clear H
  go_enter Try.func3, Try.ntmps3
  go_upto_region 3 with (first | ((with_reducible refine gate_callee (f := 10) rfl ?_); refine goesL_ (some 12) rfl rfl Try.func10 (by kernel_rfl) rfl #[.int .i64 a0, .int .i64 400] rfl (by (try simp only [List.map_toArray, List.map_cons, List.map_nil]); first | done | rfl | (simp only [List.length_drop, List.length_take]; rfl)) ?_; (with_reducible refine (tipstaffkit_Mod.calls a0 400 t123 _ A3.out).mono ?_); rintro e w' ⟨rfl, ⟨nd, rfl⟩⟩; refine ⟨_, rfl, ?_⟩) | ((with_reducible refine gate_callee (f := 10) rfl ?_); refine goesL_ (some 15) rfl rfl Try.func10 (by kernel_rfl) rfl #[.int .i64 a1, .int .i64 20] rfl (by (try simp only [List.map_toArray, List.map_cons, List.map_nil]); first | done | rfl | (simp only [List.length_drop, List.length_take]; rfl)) ?_; (with_reducible refine (tipstaffkit_Mod.calls a1 20 t124 _ A4.out).mono ?_); rintro e w' ⟨rfl, ⟨nd, rfl⟩⟩; refine ⟨_, rfl, ?_⟩) | ((with_reducible refine gate_callee (f := 11) rfl ?_); refine goesL_ (some 20) rfl rfl Try.func11 (by kernel_rfl) rfl #[.int .i64 (wrap64 (1 + t123)), .int .i64 (wrap64 (1 + t124))] rfl (by (try simp only [List.map_toArray, List.map_cons, List.map_nil]); first | done | rfl | (simp only [List.length_drop, List.length_take]; rfl)) ?_; (with_reducible refine (profile_Travel.calls k (wrap64 (1 + t123)) (wrap64 (1 + t124)) t125 t126 _ A5.out).mono ?_); rintro e w7 ⟨rfl, hb⟩; refine ⟨_, rfl, ?_⟩; have n0_ := Aside0.mk (below_step (by repeat (first | (with_reducible first | exact HB.out | apply below_alloc | apply pw_below_drewN | apply below_drew1) | exact HB.out)) hb); clear HB; have HB := n0_; clear n0_; (try clear hb); (try clear hb2); (try clear hk); (try clear hi)))
  (try simp only [Act.put, List.setIfInBounds_toArray, List.set_cons_zero, List.set_cons_succ])
  go_cut [32] (fun v32 wc => ∃ (kq : Nat) (x32_5 : Bool), v32 = .bool x32_5 ∧ Aside0 (tipstafflaw08_ProfileLeast.j0 kq (wrap64 (1 + t123)) (wrap64 (1 + t124)) t125 x32_5 = some r) ∧ Aside0 (kq ≤ k) ∧ Aside0 (Below w.heap.size w wc))
  case first =>
    have H := HC6.out
    clear HC6
    by_cases c8 : t126 = 0
    · rw [if_pos c8] at H
      have c8b0 : (t126 == 0) = true := beq_iff_eq.mpr c8
      have c8b1 : (t126 != 0) = false := bne_eq_false_iff_eq.mpr c8
      clear c8
      (first | rw [c8b0] | (simp only [i64_w, i32_w]; rw [c8b0]) | skip)
      by_cases c9 : t125 < 1
      · rw [if_pos c9] at H
        have c9b0 : decide (t125 < 1) = true := decide_eq_true c9
        clear c9
        have H' := Aside0.mk H
        clear H
        go_wp2
        go_meet
        case rel => exact ⟨_, (true), (by first | rfl | (simp; done) | (simp [*]; done)), H', ⟨by first | omega | exact Nat.le_refl _⟩, ⟨by repeat (first | (with_reducible first | exact HB.out | apply below_alloc | apply pw_below_drewN | apply below_drew1) | exact HB.out)⟩⟩
      · rw [if_neg c9] at H
        have c9b0 : decide (t125 < 1) = false := decide_eq_false c9
        clear c9
        have H' := Aside0.mk H
        clear H
        go_wp2
        go_meet
        case rel => exact ⟨_, (decide (t125 > 500)), (by first | rfl | (simp; done) | (simp [*]; done)), H', ⟨by first | omega | exact Nat.le_refl _⟩, ⟨by repeat (first | (with_reducible first | exact HB.out | apply below_alloc | apply pw_below_drewN | apply below_drew1) | exact HB.out)⟩⟩
    · rw [if_neg c8] at H
      have c8b0 : (t126 == 0) = false := beq_eq_false_iff_ne.mpr c8
      have c8b1 : (t126 != 0) = true := bne_iff_ne.mpr c8
      (first | rw [c8b0] | (simp only [i64_w, i32_w]; rw [c8b0]) | skip)
      have H' := Aside0.mk H
      clear H
      go_wp2
      go_meet
      case rel => exact ⟨_, (true), (by first | rfl | (simp; done) | (simp [*]; done)), H', ⟨by first | omega | exact Nat.le_refl _⟩, ⟨by repeat (first | (with_reducible first | exact HB.out | apply below_alloc | apply pw_below_drewN | apply below_drew1) | exact HB.out)⟩⟩
  case rest =>
    clear HC6
    try clear c1
    try clear p2
    try clear c3
    try clear p6
    try clear c8
    try clear c8b0
    try clear c8b1
    try clear c9
    try clear c9b0
    obtain ⟨kq, x32_5, rfl, HA, HJ5, HB⟩ := hcut
    cases kq with
    | zero => exact absurd HA.out (by simp [tipstafflaw08_ProfileLeast.j0])
    | succ kj5 =>
      have H := HA.out
      clear HA
      simp only [tipstafflaw08_ProfileLeast.j0] at H
      by_cases c10 : x32_5 = true
      · subst c10
        have H1 : (some false) = some r := by rw [if_pos rfl] at H; exact H
        clear H
        have H := H1
        clear H1
        obtain rfl := Option.some.inj H
        go_wp2
        go_ret
        exact ⟨by first | rfl | (simp [errW_none, errW_some] <;> rfl) | (simp [*, errW_none, errW_some] <;> rfl) | (simp (discharger := omega) only [Int.tdiv_eq_ediv_of_nonneg, Int.tmod_eq_emod_of_nonneg] <;> rfl), by repeat (first | (with_reducible first | exact HB.out | apply below_alloc | apply pw_below_drewN | apply below_drew1) | exact HB.out)⟩
      · replace c10 := Bool.eq_false_iff.mpr c10
        subst c10
        have H1 : (tipstafflaw08_ProfileLeast.l0 kj5 (wrap64 (1 + t123)) (wrap64 (1 + t124)) t125 0 1) = some r := by rw [if_neg (show ¬ (false = true) by decide)] at H; exact H
        clear H
        have H := H1
        clear H1
        have H' := Aside0.mk H
        clear H
        go_wp2
        go_loopg [9, 10] kj5 (fun kq v9 v10 w' => ∃ (x9_2 : Int) (x10_2 : Int), v9 = .int .i64 x9_2 ∧ v10 = .int .i64 x10_2 ∧ Aside0 (tipstafflaw08_ProfileLeast.l0 kq (wrap64 (1 + t123)) (wrap64 (1 + t124)) t125 x9_2 x10_2 = some r) ∧ Aside0 (kq ≤ kj5) ∧ Aside0 (Below w.heap.size w w'))
        case atStart => exact ⟨(0), (1), (by first | rfl | (simp; done) | (simp [*]; done)), (by first | rfl | (simp; done) | (simp [*]; done)), H', ⟨Nat.le_refl _⟩, ⟨by repeat (first | (with_reducible first | exact HB.out | apply below_alloc | apply pw_below_drewN | apply below_drew1) | exact HB.out)⟩⟩
        case round =>
          clear H'
          try clear c1
          try clear p2
          try clear c3
          try clear p6
          try clear c8
          try clear c8b0
          try clear c8b1
          try clear c9
          try clear c9b0
          try clear c10
          try clear p2
          try clear p6
          obtain ⟨x9_2, x10_2, rfl, rfl, HA, HK2, HB⟩ := hrel
          cases gk with
          | zero => exact absurd HA.out (by simp [tipstafflaw08_ProfileLeast.l0])
          | succ k2 =>
            have H := HA.out
            clear HA
            simp only [tipstafflaw08_ProfileLeast.l0] at H
            by_cases c11 : x10_2 ≤ (wrap64 (t125 - 1))
            · rw [if_pos c11] at H
              have c11b0 : decide (x10_2 ≤ (wrap64 (t125 - 1))) = true := decide_eq_true c11
              clear c11
              obtain ⟨ji12, hji12⟩ : ∃ j_ : Int, (mn x10_2 (wrap64 (t125 - x10_2))) = j_ := ⟨_, rfl⟩
              replace H : (tipstafflaw08_ProfileLeast.l0 k2 (wrap64 (1 + t123)) (wrap64 (1 + t124)) t125 (wrap64 (x9_2 + (mn (ji12) (wrap64 (1 + t124))))) (wrap64 (x10_2 + 1))) = some r := by first | (rw [hji12] at H; exact H) | (simp only [hji12] at H ⊢; exact H)
              have hji12_ : (if (wrap64 (t125 - x10_2)) < x10_2 then (wrap64 (t125 - x10_2)) else x10_2) = ji12 := hji12
              obtain ⟨ji13, hji13⟩ : ∃ j_ : Int, (mn (ji12) (wrap64 (1 + t124))) = j_ := ⟨_, rfl⟩
              replace H : (tipstafflaw08_ProfileLeast.l0 k2 (wrap64 (1 + t123)) (wrap64 (1 + t124)) t125 (wrap64 (x9_2 + (ji13))) (wrap64 (x10_2 + 1))) = some r := by first | (rw [hji13] at H; exact H) | (simp only [hji13] at H ⊢; exact H)
              have hji13_ : (if (wrap64 (1 + t124)) < (ji12) then (wrap64 (1 + t124)) else (ji12)) = ji13 := hji13
              have H' := Aside0.mk H
              clear H
              go_wp2
              go_roundg k2
              case measure => have := HJ5.out; have := HK2.out; omega
              case rel => exact ⟨(wrap64 (x9_2 + (ji13))), (wrap64 (x10_2 + 1)), (by first | rfl | (simp; done) | (simp only [← hji13] <;> (first | rfl | simp)) | (simp [*]; done)), (by first | rfl | (simp; done) | (simp [*]; done)), H', ⟨by have := HJ5.out; have := HK2.out; omega⟩, ⟨by repeat (first | (with_reducible first | exact HB.out | apply below_alloc | apply pw_below_drewN | apply below_drew1) | exact HB.out)⟩⟩
            · rw [if_neg c11] at H
              have c11b0 : decide (x10_2 ≤ (wrap64 (t125 - 1))) = false := decide_eq_false c11
              clear c11
              by_cases c14 : x9_2 < (wrap64 (1 + t123))
              · rw [if_pos c14] at H
                have c14b0 : decide (x9_2 < (wrap64 (1 + t123))) = true := decide_eq_true c14
                clear c14
                replace H := Option.bind_eq_some_iff.mp H
                obtain ⟨t127, A150, H⟩ := H
                replace H : (some t127) = some r := H
                have A15 := Aside0.mk A150
                clear A150
                obtain rfl := Option.some.inj H
                go_wp2_with (first | (go_at_call 12; (with_reducible refine (tipstafflaw08_awake.calls k2  t127 _ A15.out).mono ?_); rintro e w16 ⟨rfl, hb⟩; have n0_ := Aside0.mk (below_step (by repeat (first | (with_reducible first | exact HB.out | apply below_alloc | apply pw_below_drewN | apply below_drew1) | exact HB.out)) hb); clear HB; have HB := n0_; clear n0_; (try clear hb); (try clear hb2); (try clear hk); (try clear hi)))
                go_ret
                exact ⟨by first | rfl | (simp [errW_none, errW_some] <;> rfl) | (simp [*, errW_none, errW_some] <;> rfl) | (simp (discharger := omega) only [Int.tdiv_eq_ediv_of_nonneg, Int.tmod_eq_emod_of_nonneg] <;> rfl), by repeat (first | (with_reducible first | exact HB.out | apply below_alloc | apply pw_below_drewN | apply below_drew1) | exact HB.out)⟩
              · rw [if_neg c14] at H
                have c14b0 : decide (x9_2 < (wrap64 (1 + t123))) = false := decide_eq_false c14
                clear c14
                obtain rfl := Option.some.inj H
                go_wp2
                go_ret
                exact ⟨by first | rfl | (simp [errW_none, errW_some] <;> rfl) | (simp [*, errW_none, errW_some] <;> rfl) | (simp (discharger := omega) only [Int.tdiv_eq_ediv_of_nonneg, Int.tmod_eq_emod_of_nonneg] <;> rfl), by repeat (first | (with_reducible first | exact HB.out | apply below_alloc | apply pw_below_drewN | apply below_drew1) | exact HB.out)⟩

/-- THE ONE PURE STATEMENT of tipstafflaw08_ProfileLeast: yours. -/
def tipstafflaw08_ProfileLeast.Pure : Prop := ∀ (a0 : Int) (a1 : Int), (Lit.int .i64 a0).wf = true → (Lit.int .i64 a1).wf = true → ∃ k, tipstafflaw08_ProfileLeast.f k a0 a1 = some true
theorem tipstafflaw08_ProfileLeast.walk (P : tipstafflaw08_ProfileLeast.Pure) (a0 : Int) (a1 : Int) (w : World) (w0 : (Lit.int .i64 a0).wf = true) (w1 : (Lit.int .i64 a1).wf = true) :
    Calls Try.prog 3 #[.int .i64 a0, .int .i64 a1] w fun e w' => e = .returned (.bool true) ∧ Below w.heap.size w w' := by
  obtain ⟨k, h⟩ := P a0 a1 w0 w1
  refine (tipstafflaw08_ProfileLeast.calls k a0 a1 true w h).mono ?_
  rintro e w' ⟨rfl, hd⟩
  exact ⟨rfl, hd⟩

/-! ### profile_Tri: function 13 -/
def profile_Tri.f (a0 : Int) : Option (Int × Int) := if a0 < 0 then (some (0, 2)) else (if a0 > 20 then (some (0, 2)) else ((profile_tri.f a0).bind fun t128 => (some (t128, 0))))
set_option maxHeartbeats 8000000 in
set_option maxRecDepth 100000 in
theorem profile_Tri.calls (a0 : Int) (r1 : Int) (r2 : Int) (w : World) (h : profile_Tri.f a0 = some (r1, r2)) :
    Calls Try.prog 13 #[.int .i64 a0] w fun e w' => e = .returned (.tuple #[.int .i64 r1, .int .i64 r2]) ∧ Drawn0 w w' := by
  have H : (if a0 < 0 then (some (0, 2)) else (if a0 > 20 then (some (0, 2)) else ((profile_tri.f a0).bind fun t128 => (some (t128, 0))))) = some (r1, r2) := h
  clear h
  by_cases c2 : a0 < 0
  · rw [if_pos c2] at H
    have c2b0 : decide (a0 < 0) = true := decide_eq_true c2
    clear c2
    simp only [Option.some.injEq, Prod.mk.injEq] at H
    obtain ⟨rfl, rfl⟩ := H
    go_enter Try.func13, Try.ntmps13
    go_wp2
    go_ret2
    exact ⟨by first | rfl | (simp; done) | (simp [*]; done), by repeat (first | exact Drawn0.refl _ | apply Drawn0.step)⟩
  · rw [if_neg c2] at H
    have c2b0 : decide (a0 < 0) = false := decide_eq_false c2
    clear c2
    by_cases c3 : a0 > 20
    · rw [if_pos c3] at H
      have c3b0 : decide (20 < a0) = true := decide_eq_true c3
      clear c3
      simp only [Option.some.injEq, Prod.mk.injEq] at H
      obtain ⟨rfl, rfl⟩ := H
      go_enter Try.func13, Try.ntmps13
      go_wp2
      go_ret2
      exact ⟨by first | rfl | (simp; done) | (simp [*]; done), by repeat (first | exact Drawn0.refl _ | apply Drawn0.step)⟩
    · rw [if_neg c3] at H
      have c3b0 : decide (20 < a0) = false := decide_eq_false c3
      clear c3
      replace H := Option.bind_eq_some_iff.mp H
      obtain ⟨t128, A40, H⟩ := H
      replace H : (some (t128, 0)) = some (r1, r2) := H
      have A4 := Aside0.mk A40
      clear A40
      simp only [Option.some.injEq, Prod.mk.injEq] at H
      obtain ⟨rfl, rfl⟩ := H
      go_enter Try.func13, Try.ntmps13
      go_wp2_with (first | ((with_reducible refine gate_callee (f := 32) rfl ?_); refine goesL_ (some 11) rfl rfl Try.func32 (by kernel_rfl) rfl #[.int .i64 a0] rfl (by (try simp only [List.map_toArray, List.map_cons, List.map_nil]); first | done | rfl | (simp only [List.length_drop, List.length_take]; rfl)) ?_; (with_reducible refine (profile_tri.calls a0 t128 _ A4.out).mono ?_); rintro e w' ⟨rfl, ⟨nd, rfl⟩⟩; refine ⟨_, rfl, ?_⟩))
      go_ret2
      exact ⟨by first | rfl | (simp; done) | (simp [*]; done), by repeat (first | exact Drawn0.refl _ | apply Drawn0.step)⟩

/-! ### tipstaffref08_tri: function 33 -/
def tipstaffref08_tri.f (a0 : Int) : Option (Int) := some (wrap64 (Int.tdiv (wrap64 (a0 * (wrap64 (a0 + 1)))) 2))
set_option maxHeartbeats 8000000 in
set_option maxRecDepth 100000 in
theorem tipstaffref08_tri.calls (a0 : Int) (r : Int) (w : World) (h : tipstaffref08_tri.f a0 = some r) :
    Calls Try.prog 33 #[.int .i64 a0] w fun e w' => e = .returned (.int .i64 r) ∧ Drawn0 w w' := by
  have H : (some (wrap64 (Int.tdiv (wrap64 (a0 * (wrap64 (a0 + 1)))) 2))) = some r := h
  clear h
  obtain rfl := Option.some.inj H
  go_enter Try.func33, Try.ntmps33
  go_wp2
  go_ret
  exact ⟨by first | rfl | (simp; done) | (simp [*]; done), by repeat (first | exact Drawn0.refl _ | apply Drawn0.step)⟩

end Go.Proofs.Ytgjcpocncpeibaa.S
