-- PRINTED by print.py (a twelfth state) out of the translation. Not trusted: Lean checks it.
import Derived.Test.YtgjcpocncpeibaaS0
import Derived.Test.YtgjcpocncpeibaaS1
import Derived.Test.YtgjcpocncpeibaaS2
import Derived.Test.YtgjcpocncpeibaaS4
import Derived.Test.YtgjcpocncpeibaaHreach
namespace Go.Proofs.Ytgjcpocncpeibaa.S
open Go.RowKit Go.Proofs.YtgjcpocncpeibaaW.PrintWords Go.Proofs.YtgjcpocncpeibaaW.PrintLast Go.Proofs.YtgjcpocncpeibaaW.PrintMore
attribute [local go_sem] Go.Proofs.YtgjcpocncpeibaaW.PrintXtra.isSome_setCell max2_int min2_int max_two min_two max_three min_three max_four min_four   -- for this text's walks alone
set_option linter.unusedVariables false
set_option linter.unusedSimpArgs false

/-! ### tipstafflaw08_ProfileGrows: function 8 -/
mutual
def tipstafflaw08_ProfileGrows.j0 : Nat → Int → Int → Int → Int → Bool → Option (Bool)
  | 0, _, _, _, _, _ => none
  | k + 1, x2, x7, x8, x9, x47 => if x47 = true then (some false) else (if x8 < 20 then ((profile_Travel.f k x7 (wrap64 (x8 + 1))).bind fun bt216 => (if bt216.2 = 0 then (if bt216.1 > x9 then (some false) else (tipstafflaw08_ProfileGrows.j1 k x2 x8)) else (some false))) else (tipstafflaw08_ProfileGrows.j1 k x2 x8))
def tipstafflaw08_ProfileGrows.j1 : Nat → Int → Int → Option (Bool)
  | 0, _, _ => none
  | k + 1, x2, x8 => (tipstaffkit_Mod.f x2 400).bind fun t218 => ((profile_Reach.f k t218 x8).bind fun bt219 => (if bt219.2 = 0 then (if bt219.1 < 0 then (tipstafflaw08_ProfileGrows.j2 k x8 t218 bt219.1 true) else (tipstafflaw08_ProfileGrows.j2 k x8 t218 bt219.1 (decide (bt219.1 ≥ 63000)))) else (tipstafflaw08_ProfileGrows.j2 k x8 t218 bt219.1 true)))
def tipstafflaw08_ProfileGrows.j2 : Nat → Int → Int → Int → Bool → Option (Bool)
  | 0, _, _, _, _ => none
  | k + 1, x8, x15, x16, x81 => if x81 = true then (some false) else ((profile_Travel.f k x16 x8).bind fun bt221 => ((profile_Travel.f k (wrap64 (x16 + 1)) x8).bind fun bt223 => (if bt221.2 = 0 then (if bt223.2 = 0 then (if bt221.1 ≤ x15 then (if bt223.1 > x15 then ((tipstafflaw08_awake.f k).bind fun t225 => (some t225)) else (some false)) else (some false)) else (some false)) else (some false))))
end
def tipstafflaw08_ProfileGrows.f (k : Nat) (a0 : Int) (a1 : Int) (a2 : Int) : Option (Bool) := (tipstaffkit_Mod.f a0 3000).bind fun t210 => ((tipstaffkit_Mod.f a1 20).bind fun t211 => ((profile_Travel.f k t210 (wrap64 (1 + t211))).bind fun bt212 => ((profile_Travel.f k (wrap64 (t210 + 1)) (wrap64 (1 + t211))).bind fun bt214 => (if bt212.2 = 0 then (if bt214.2 = 0 then (tipstafflaw08_ProfileGrows.j0 k a2 t210 (wrap64 (1 + t211)) bt212.1 (decide (bt214.1 < bt212.1))) else (tipstafflaw08_ProfileGrows.j0 k a2 t210 (wrap64 (1 + t211)) bt212.1 true)) else (tipstafflaw08_ProfileGrows.j0 k a2 t210 (wrap64 (1 + t211)) bt212.1 true)))))
theorem tipstafflaw08_ProfileGrows.mono_l : ∀ k, (∀ y0 y1 y2 y3 y4, LeO (tipstafflaw08_ProfileGrows.j0 k y0 y1 y2 y3 y4) (tipstafflaw08_ProfileGrows.j0 (k + 1) y0 y1 y2 y3 y4)) ∧ (∀ y0 y1, LeO (tipstafflaw08_ProfileGrows.j1 k y0 y1) (tipstafflaw08_ProfileGrows.j1 (k + 1) y0 y1)) ∧ (∀ y0 y1 y2 y3, LeO (tipstafflaw08_ProfileGrows.j2 k y0 y1 y2 y3) (tipstafflaw08_ProfileGrows.j2 (k + 1) y0 y1 y2 y3))
  | 0 => ⟨fun _ _ _ _ _ r h => by simp [tipstafflaw08_ProfileGrows.j0] at h, fun _ _ r h => by simp [tipstafflaw08_ProfileGrows.j1] at h, fun _ _ _ _ r h => by simp [tipstafflaw08_ProfileGrows.j2] at h⟩
  | k + 1 => by
    obtain ⟨ih0, ih1, ih2⟩ := tipstafflaw08_ProfileGrows.mono_l k
    refine ⟨?_, ?_, ?_⟩
    · intro y0 y1 y2 y3 y4
      unfold tipstafflaw08_ProfileGrows.j0
      repeat' first
      | (with_reducible exact ih0 _ _ _ _ _)
      | (with_reducible exact ih1 _ _)
      | (with_reducible exact ih2 _ _ _ _)
      | (with_reducible exact profile_Reach.mono _ _ _)
      | (with_reducible exact profile_Travel.mono _ _ _)
      | (with_reducible exact tipstafflaw08_awake.mono _)
      | (with_reducible exact LeO.refl _)
      | (with_reducible exact LeO.none _)
      | (with_reducible refine LeO.ite ?_ ?_)
      | (with_reducible refine LeO.bind ?_ (fun _ => ?_))
      | exact ih0 _ _ _ _ _
      | exact ih1 _ _
      | exact ih2 _ _ _ _
      | exact profile_Reach.mono _ _ _
      | exact profile_Travel.mono _ _ _
      | exact tipstafflaw08_awake.mono _
      | exact LeO.none _
      | refine LeO.ite ?_ ?_
      | refine LeO.bind ?_ (fun _ => ?_)
    · intro y0 y1
      unfold tipstafflaw08_ProfileGrows.j1
      repeat' first
      | (with_reducible exact ih0 _ _ _ _ _)
      | (with_reducible exact ih1 _ _)
      | (with_reducible exact ih2 _ _ _ _)
      | (with_reducible exact profile_Reach.mono _ _ _)
      | (with_reducible exact profile_Travel.mono _ _ _)
      | (with_reducible exact tipstafflaw08_awake.mono _)
      | (with_reducible exact LeO.refl _)
      | (with_reducible exact LeO.none _)
      | (with_reducible refine LeO.ite ?_ ?_)
      | (with_reducible refine LeO.bind ?_ (fun _ => ?_))
      | exact ih0 _ _ _ _ _
      | exact ih1 _ _
      | exact ih2 _ _ _ _
      | exact profile_Reach.mono _ _ _
      | exact profile_Travel.mono _ _ _
      | exact tipstafflaw08_awake.mono _
      | exact LeO.none _
      | refine LeO.ite ?_ ?_
      | refine LeO.bind ?_ (fun _ => ?_)
    · intro y0 y1 y2 y3
      unfold tipstafflaw08_ProfileGrows.j2
      repeat' first
      | (with_reducible exact ih0 _ _ _ _ _)
      | (with_reducible exact ih1 _ _)
      | (with_reducible exact ih2 _ _ _ _)
      | (with_reducible exact profile_Reach.mono _ _ _)
      | (with_reducible exact profile_Travel.mono _ _ _)
      | (with_reducible exact tipstafflaw08_awake.mono _)
      | (with_reducible exact LeO.refl _)
      | (with_reducible exact LeO.none _)
      | (with_reducible refine LeO.ite ?_ ?_)
      | (with_reducible refine LeO.bind ?_ (fun _ => ?_))
      | exact ih0 _ _ _ _ _
      | exact ih1 _ _
      | exact ih2 _ _ _ _
      | exact profile_Reach.mono _ _ _
      | exact profile_Travel.mono _ _ _
      | exact tipstafflaw08_awake.mono _
      | exact LeO.none _
      | refine LeO.ite ?_ ?_
      | refine LeO.bind ?_ (fun _ => ?_)
theorem tipstafflaw08_ProfileGrows.mono : ∀ a0 a1 a2 k, LeO (tipstafflaw08_ProfileGrows.f k a0 a1 a2) (tipstafflaw08_ProfileGrows.f (k + 1) a0 a1 a2) := by
  intro a0 a1 a2 k
  obtain ⟨ih0, ih1, ih2⟩ := tipstafflaw08_ProfileGrows.mono_l k
  unfold tipstafflaw08_ProfileGrows.f
  repeat' first
      | (with_reducible exact ih0 _ _ _ _ _)
      | (with_reducible exact ih1 _ _)
      | (with_reducible exact ih2 _ _ _ _)
      | (with_reducible exact profile_Reach.mono _ _ _)
      | (with_reducible exact profile_Travel.mono _ _ _)
      | (with_reducible exact tipstafflaw08_awake.mono _)
      | (with_reducible exact LeO.refl _)
      | (with_reducible exact LeO.none _)
      | (with_reducible refine LeO.ite ?_ ?_)
      | (with_reducible refine LeO.bind ?_ (fun _ => ?_))
      | exact ih0 _ _ _ _ _
      | exact ih1 _ _
      | exact ih2 _ _ _ _
      | exact profile_Reach.mono _ _ _
      | exact profile_Travel.mono _ _ _
      | exact tipstafflaw08_awake.mono _
      | exact LeO.none _
      | refine LeO.ite ?_ ?_
      | refine LeO.bind ?_ (fun _ => ?_)
set_option maxHeartbeats 8000000 in
set_option maxRecDepth 100000 in
theorem tipstafflaw08_ProfileGrows.calls (k : Nat) (a0 : Int) (a1 : Int) (a2 : Int) (r : Bool) (w : World) (h : tipstafflaw08_ProfileGrows.f k a0 a1 a2 = some r) :
    Calls Try.prog 8 #[.int .i64 a0, .int .i64 a1, .int .i64 a2] w fun e w' => e = .returned (.bool r) ∧ Below w.heap.size w w' := by
  have HB := Aside0.mk (Below.refl w.heap.size w)
  have H : ((tipstaffkit_Mod.f a0 3000).bind fun t210 => ((tipstaffkit_Mod.f a1 20).bind fun t211 => ((profile_Travel.f k t210 (wrap64 (1 + t211))).bind fun bt212 => ((profile_Travel.f k (wrap64 (t210 + 1)) (wrap64 (1 + t211))).bind fun bt214 => (if bt212.2 = 0 then (if bt214.2 = 0 then (tipstafflaw08_ProfileGrows.j0 k a2 t210 (wrap64 (1 + t211)) bt212.1 (decide (bt214.1 < bt212.1))) else (tipstafflaw08_ProfileGrows.j0 k a2 t210 (wrap64 (1 + t211)) bt212.1 true)) else (tipstafflaw08_ProfileGrows.j0 k a2 t210 (wrap64 (1 + t211)) bt212.1 true)))))) = some r := h
  clear h
  replace H := Option.bind_eq_some_iff.mp H
  obtain ⟨t210, A40, H⟩ := H
  replace H : ((tipstaffkit_Mod.f a1 20).bind fun t211 => ((profile_Travel.f k t210 (wrap64 (1 + t211))).bind fun bt212 => ((profile_Travel.f k (wrap64 (t210 + 1)) (wrap64 (1 + t211))).bind fun bt214 => (if bt212.2 = 0 then (if bt214.2 = 0 then (tipstafflaw08_ProfileGrows.j0 k a2 t210 (wrap64 (1 + t211)) bt212.1 (decide (bt214.1 < bt212.1))) else (tipstafflaw08_ProfileGrows.j0 k a2 t210 (wrap64 (1 + t211)) bt212.1 true)) else (tipstafflaw08_ProfileGrows.j0 k a2 t210 (wrap64 (1 + t211)) bt212.1 true))))) = some r := H
  have A4 := Aside0.mk A40
  clear A40
  replace H := Option.bind_eq_some_iff.mp H
  obtain ⟨t211, A50, H⟩ := H
  replace H : ((profile_Travel.f k t210 (wrap64 (1 + t211))).bind fun bt212 => ((profile_Travel.f k (wrap64 (t210 + 1)) (wrap64 (1 + t211))).bind fun bt214 => (if bt212.2 = 0 then (if bt214.2 = 0 then (tipstafflaw08_ProfileGrows.j0 k a2 t210 (wrap64 (1 + t211)) bt212.1 (decide (bt214.1 < bt212.1))) else (tipstafflaw08_ProfileGrows.j0 k a2 t210 (wrap64 (1 + t211)) bt212.1 true)) else (tipstafflaw08_ProfileGrows.j0 k a2 t210 (wrap64 (1 + t211)) bt212.1 true)))) = some r := H
  have A5 := Aside0.mk A50
  clear A50
  replace H := Option.bind_eq_some_iff.mp H
  obtain ⟨⟨t212, t213⟩, A60, H⟩ := H
  replace H : ((profile_Travel.f k (wrap64 (t210 + 1)) (wrap64 (1 + t211))).bind fun bt214 => (if t213 = 0 then (if bt214.2 = 0 then (tipstafflaw08_ProfileGrows.j0 k a2 t210 (wrap64 (1 + t211)) t212 (decide (bt214.1 < t212))) else (tipstafflaw08_ProfileGrows.j0 k a2 t210 (wrap64 (1 + t211)) t212 true)) else (tipstafflaw08_ProfileGrows.j0 k a2 t210 (wrap64 (1 + t211)) t212 true))) = some r := H
  have A6 := Aside0.mk A60
  clear A60
  replace H := Option.bind_eq_some_iff.mp H
  obtain ⟨⟨t214, t215⟩, A70, H⟩ := H
  replace H : (if t213 = 0 then (if t215 = 0 then (tipstafflaw08_ProfileGrows.j0 k a2 t210 (wrap64 (1 + t211)) t212 (decide (t214 < t212))) else (tipstafflaw08_ProfileGrows.j0 k a2 t210 (wrap64 (1 + t211)) t212 true)) else (tipstafflaw08_ProfileGrows.j0 k a2 t210 (wrap64 (1 + t211)) t212 true)) = some r := H
  have A7 := Aside0.mk A70
  clear A70
  have HC8 := Aside0.mk H
  clear H
  go_enter Try.func8, Try.ntmps8
  go_upto_region 4 with (first | ((with_reducible refine gate_callee (f := 10) rfl ?_); refine goesL_ (some 20) rfl rfl Try.func10 (by kernel_rfl) rfl #[.int .i64 a0, .int .i64 3000] rfl (by (try simp only [List.map_toArray, List.map_cons, List.map_nil]); first | done | rfl | (simp only [List.length_drop, List.length_take]; rfl)) ?_; (with_reducible refine (tipstaffkit_Mod.calls a0 3000 t210 _ A4.out).mono ?_); rintro e w' ⟨rfl, ⟨nd, rfl⟩⟩; refine ⟨_, rfl, ?_⟩) | ((with_reducible refine gate_callee (f := 10) rfl ?_); refine goesL_ (some 22) rfl rfl Try.func10 (by kernel_rfl) rfl #[.int .i64 a1, .int .i64 20] rfl (by (try simp only [List.map_toArray, List.map_cons, List.map_nil]); first | done | rfl | (simp only [List.length_drop, List.length_take]; rfl)) ?_; (with_reducible refine (tipstaffkit_Mod.calls a1 20 t211 _ A5.out).mono ?_); rintro e w' ⟨rfl, ⟨nd, rfl⟩⟩; refine ⟨_, rfl, ?_⟩) | ((with_reducible refine gate_callee (f := 11) rfl ?_); refine goesL_ (some 27) rfl rfl Try.func11 (by kernel_rfl) rfl #[.int .i64 t210, .int .i64 (wrap64 (1 + t211))] rfl (by (try simp only [List.map_toArray, List.map_cons, List.map_nil]); first | done | rfl | (simp only [List.length_drop, List.length_take]; rfl)) ?_; (with_reducible refine (profile_Travel.calls k t210 (wrap64 (1 + t211)) t212 t213 _ A6.out).mono ?_); rintro e w9 ⟨rfl, hb⟩; refine ⟨_, rfl, ?_⟩; have n0_ := Aside0.mk (below_step (by repeat (first | (with_reducible first | exact HB.out | apply below_alloc | apply pw_below_drewN | apply below_drew1) | exact HB.out)) hb); clear HB; have HB := n0_; clear n0_; (try clear hb); (try clear hb2); (try clear hk); (try clear hi)) | ((with_reducible refine gate_callee (f := 11) rfl ?_); refine goesL_ (some 34) rfl rfl Try.func11 (by kernel_rfl) rfl #[.int .i64 (wrap64 (t210 + 1)), .int .i64 (wrap64 (1 + t211))] rfl (by (try simp only [List.map_toArray, List.map_cons, List.map_nil]); first | done | rfl | (simp only [List.length_drop, List.length_take]; rfl)) ?_; (with_reducible refine (profile_Travel.calls k (wrap64 (t210 + 1)) (wrap64 (1 + t211)) t214 t215 _ A7.out).mono ?_); rintro e w10 ⟨rfl, hb⟩; refine ⟨_, rfl, ?_⟩; have n0_ := Aside0.mk (below_step (by repeat (first | (with_reducible first | exact HB.out | apply below_alloc | apply pw_below_drewN | apply below_drew1) | exact HB.out)) hb); clear HB; have HB := n0_; clear n0_; (try clear hb); (try clear hb2); (try clear hk); (try clear hi)))
  (try simp only [Act.put, List.setIfInBounds_toArray, List.set_cons_zero, List.set_cons_succ])
  go_cut [47] (fun v47 wc => ∃ (kq : Nat) (x47_7 : Bool), v47 = .bool x47_7 ∧ Aside0 (tipstafflaw08_ProfileGrows.j0 kq a2 t210 (wrap64 (1 + t211)) t212 x47_7 = some r) ∧ Aside0 (kq ≤ k) ∧ Aside0 (Below w.heap.size w wc))
  case first =>
    have H := HC8.out
    clear HC8
    by_cases c11 : t213 = 0
    · rw [if_pos c11] at H
      have c11b0 : (t213 == 0) = true := beq_iff_eq.mpr c11
      have c11b1 : (t213 != 0) = false := bne_eq_false_iff_eq.mpr c11
      clear c11
      (first | rw [c11b0] | (simp only [i64_w, i32_w]; rw [c11b0]) | skip)
      by_cases c12 : t215 = 0
      · rw [if_pos c12] at H
        have c12b0 : (t215 == 0) = true := beq_iff_eq.mpr c12
        have c12b1 : (t215 != 0) = false := bne_eq_false_iff_eq.mpr c12
        clear c12
        have H' := Aside0.mk H
        clear H
        go_wp2
        go_meet
        case rel => exact ⟨_, (decide (t214 < t212)), (by first | rfl | (simp; done) | (simp [*]; done)), H', ⟨by first | omega | exact Nat.le_refl _⟩, ⟨by repeat (first | (with_reducible first | exact HB.out | apply below_alloc | apply pw_below_drewN | apply below_drew1) | exact HB.out)⟩⟩
      · rw [if_neg c12] at H
        have c12b0 : (t215 == 0) = false := beq_eq_false_iff_ne.mpr c12
        have c12b1 : (t215 != 0) = true := bne_iff_ne.mpr c12
        have H' := Aside0.mk H
        clear H
        go_wp2
        go_meet
        case rel => exact ⟨_, (true), (by first | rfl | (simp; done) | (simp [*]; done)), H', ⟨by first | omega | exact Nat.le_refl _⟩, ⟨by repeat (first | (with_reducible first | exact HB.out | apply below_alloc | apply pw_below_drewN | apply below_drew1) | exact HB.out)⟩⟩
    · rw [if_neg c11] at H
      have c11b0 : (t213 == 0) = false := beq_eq_false_iff_ne.mpr c11
      have c11b1 : (t213 != 0) = true := bne_iff_ne.mpr c11
      (first | rw [c11b0] | (simp only [i64_w, i32_w]; rw [c11b0]) | skip)
      have H' := Aside0.mk H
      clear H
      go_wp2
      go_meet
      case rel => exact ⟨_, (true), (by first | rfl | (simp; done) | (simp [*]; done)), H', ⟨by first | omega | exact Nat.le_refl _⟩, ⟨by repeat (first | (with_reducible first | exact HB.out | apply below_alloc | apply pw_below_drewN | apply below_drew1) | exact HB.out)⟩⟩
  case rest =>
    clear HC8
    try clear c1
    try clear p2
    try clear p6
    try clear c8
    try clear c10
    try clear c11
    try clear c11b0
    try clear c11b1
    try clear c12
    try clear c12b0
    try clear c12b1
    obtain ⟨kq, x47_7, rfl, HA, HJ7, HB⟩ := hcut
    cases kq with
    | zero => exact absurd HA.out (by simp [tipstafflaw08_ProfileGrows.j0])
    | succ kj7 =>
      have H := HA.out
      clear HA
      simp only [tipstafflaw08_ProfileGrows.j0] at H
      by_cases c13 : x47_7 = true
      · subst c13
        have H1 : (some false) = some r := by rw [if_pos rfl] at H; exact H
        clear H
        have H := H1
        clear H1
        obtain rfl := Option.some.inj H
        go_wp2
        go_ret
        exact ⟨by first | rfl | (simp [errW_none, errW_some] <;> rfl) | (simp [*, errW_none, errW_some] <;> rfl) | (simp (discharger := omega) only [Int.tdiv_eq_ediv_of_nonneg, Int.tmod_eq_emod_of_nonneg] <;> rfl), by repeat (first | (with_reducible first | exact HB.out | apply below_alloc | apply pw_below_drewN | apply below_drew1) | exact HB.out)⟩
      · replace c13 := Bool.eq_false_iff.mpr c13
        subst c13
        have H1 : (if (wrap64 (1 + t211)) < 20 then ((profile_Travel.f kj7 t210 (wrap64 ((wrap64 (1 + t211)) + 1))).bind fun bt216 => (if bt216.2 = 0 then (if bt216.1 > t212 then (some false) else (tipstafflaw08_ProfileGrows.j1 kj7 a2 (wrap64 (1 + t211)))) else (some false))) else (tipstafflaw08_ProfileGrows.j1 kj7 a2 (wrap64 (1 + t211)))) = some r := by rw [if_neg (show ¬ (false = true) by decide)] at H; exact H
        clear H
        have H := H1
        clear H1
        have HC14 := Aside0.mk H
        clear H
        go_upto_if 49 with (fail)
        go_cut [] (fun wc => ∃ (kq : Nat), Aside0 (tipstafflaw08_ProfileGrows.j1 kq a2 (wrap64 (1 + t211)) = some r) ∧ Aside0 (kq ≤ kj7) ∧ Aside0 (Below w.heap.size w wc))
        case first =>
          have H := HC14.out
          clear HC14
          by_cases c15 : (wrap64 (1 + t211)) < 20
          · rw [if_pos c15] at H
            have c15b0 : decide ((wrap64 (1 + t211)) < 20) = true := decide_eq_true c15
            clear c15
            (first | rw [c15b0] | (simp only [i64_w, i32_w]; rw [c15b0]) | skip)
            replace H := Option.bind_eq_some_iff.mp H
            obtain ⟨⟨t216, t217⟩, A160, H⟩ := H
            replace H : (if t217 = 0 then (if t216 > t212 then (some false) else (tipstafflaw08_ProfileGrows.j1 kj7 a2 (wrap64 (1 + t211)))) else (some false)) = some r := H
            have A16 := Aside0.mk A160
            clear A160
            by_cases c17 : t217 = 0
            · rw [if_pos c17] at H
              have c17b0 : (t217 == 0) = true := beq_iff_eq.mpr c17
              have c17b1 : (t217 != 0) = false := bne_eq_false_iff_eq.mpr c17
              clear c17
              by_cases c18 : t216 > t212
              · rw [if_pos c18] at H
                have c18b0 : decide (t212 < t216) = true := decide_eq_true c18
                clear c18
                obtain rfl := Option.some.inj H
                go_wp2_with (first | ((with_reducible refine gate_callee (f := 11) rfl ?_); refine goesL_ (some 54) rfl rfl Try.func11 (by kernel_rfl) rfl #[.int .i64 t210, .int .i64 (wrap64 ((wrap64 (1 + t211)) + 1))] rfl (by (try simp only [List.map_toArray, List.map_cons, List.map_nil]); first | done | rfl | (simp only [List.length_drop, List.length_take]; rfl)) ?_; (with_reducible refine (profile_Travel.calls kj7 t210 (wrap64 ((wrap64 (1 + t211)) + 1)) t216 t217 _ A16.out).mono ?_); rintro e w19 ⟨rfl, hb⟩; refine ⟨_, rfl, ?_⟩; have n0_ := Aside0.mk (below_step (by repeat (first | (with_reducible first | exact HB.out | apply below_alloc | apply pw_below_drewN | apply below_drew1) | exact HB.out)) hb); clear HB; have HB := n0_; clear n0_; (try clear hb); (try clear hb2); (try clear hk); (try clear hi)))
                go_ret
                exact ⟨by first | rfl | (simp [errW_none, errW_some] <;> rfl) | (simp [*, errW_none, errW_some] <;> rfl) | (simp (discharger := omega) only [Int.tdiv_eq_ediv_of_nonneg, Int.tmod_eq_emod_of_nonneg] <;> rfl), by repeat (first | (with_reducible first | exact HB.out | apply below_alloc | apply pw_below_drewN | apply below_drew1) | exact HB.out)⟩
              · rw [if_neg c18] at H
                have c18b0 : decide (t212 < t216) = false := decide_eq_false c18
                clear c18
                have H' := Aside0.mk H
                clear H
                go_wp2_with (first | ((with_reducible refine gate_callee (f := 11) rfl ?_); refine goesL_ (some 54) rfl rfl Try.func11 (by kernel_rfl) rfl #[.int .i64 t210, .int .i64 (wrap64 ((wrap64 (1 + t211)) + 1))] rfl (by (try simp only [List.map_toArray, List.map_cons, List.map_nil]); first | done | rfl | (simp only [List.length_drop, List.length_take]; rfl)) ?_; (with_reducible refine (profile_Travel.calls kj7 t210 (wrap64 ((wrap64 (1 + t211)) + 1)) t216 t217 _ A16.out).mono ?_); rintro e w20 ⟨rfl, hb⟩; refine ⟨_, rfl, ?_⟩; have n0_ := Aside0.mk (below_step (by repeat (first | (with_reducible first | exact HB.out | apply below_alloc | apply pw_below_drewN | apply below_drew1) | exact HB.out)) hb); clear HB; have HB := n0_; clear n0_; (try clear hb); (try clear hb2); (try clear hk); (try clear hi)))
                go_meet
                case rel => exact ⟨_, H', ⟨by have := HJ7.out; first | omega | exact Nat.le_refl _⟩, ⟨by repeat (first | (with_reducible first | exact HB.out | apply below_alloc | apply pw_below_drewN | apply below_drew1) | exact HB.out)⟩⟩
            · rw [if_neg c17] at H
              have c17b0 : (t217 == 0) = false := beq_eq_false_iff_ne.mpr c17
              have c17b1 : (t217 != 0) = true := bne_iff_ne.mpr c17
              obtain rfl := Option.some.inj H
              go_wp2_with (first | ((with_reducible refine gate_callee (f := 11) rfl ?_); refine goesL_ (some 54) rfl rfl Try.func11 (by kernel_rfl) rfl #[.int .i64 t210, .int .i64 (wrap64 ((wrap64 (1 + t211)) + 1))] rfl (by (try simp only [List.map_toArray, List.map_cons, List.map_nil]); first | done | rfl | (simp only [List.length_drop, List.length_take]; rfl)) ?_; (with_reducible refine (profile_Travel.calls kj7 t210 (wrap64 ((wrap64 (1 + t211)) + 1)) t216 t217 _ A16.out).mono ?_); rintro e w21 ⟨rfl, hb⟩; refine ⟨_, rfl, ?_⟩; have n0_ := Aside0.mk (below_step (by repeat (first | (with_reducible first | exact HB.out | apply below_alloc | apply pw_below_drewN | apply below_drew1) | exact HB.out)) hb); clear HB; have HB := n0_; clear n0_; (try clear hb); (try clear hb2); (try clear hk); (try clear hi)))
              go_ret
              exact ⟨by first | rfl | (simp [errW_none, errW_some] <;> rfl) | (simp [*, errW_none, errW_some] <;> rfl) | (simp (discharger := omega) only [Int.tdiv_eq_ediv_of_nonneg, Int.tmod_eq_emod_of_nonneg] <;> rfl), by repeat (first | (with_reducible first | exact HB.out | apply below_alloc | apply pw_below_drewN | apply below_drew1) | exact HB.out)⟩
          · rw [if_neg c15] at H
            have c15b0 : decide ((wrap64 (1 + t211)) < 20) = false := decide_eq_false c15
            clear c15
            (first | rw [c15b0] | (simp only [i64_w, i32_w]; rw [c15b0]) | skip)
            have H' := Aside0.mk H
            clear H
            go_wp2
            go_meet
            case rel => exact ⟨_, H', ⟨by have := HJ7.out; first | omega | exact Nat.le_refl _⟩, ⟨by repeat (first | (with_reducible first | exact HB.out | apply below_alloc | apply pw_below_drewN | apply below_drew1) | exact HB.out)⟩⟩
        case rest =>
          clear HC14
          try clear c1
          try clear p2
          try clear p6
          try clear c8
          try clear c10
          try clear c11
          try clear c11b0
          try clear c11b1
          try clear c12
          try clear c12b0
          try clear c12b1
          try clear c13
          try clear c15
          try clear c15b0
          try clear c17
          try clear c17b0
          try clear c17b1
          try clear c18
          try clear c18b0
          try clear p2
          try clear p6
          obtain ⟨kq, HA, HJ13, HB⟩ := hcut
          cases kq with
          | zero => exact absurd HA.out (by simp [tipstafflaw08_ProfileGrows.j1])
          | succ kj13 =>
            have H := HA.out
            clear HA
            simp only [tipstafflaw08_ProfileGrows.j1] at H
            replace H := Option.bind_eq_some_iff.mp H
            obtain ⟨t218, A220, H⟩ := H
            replace H : ((profile_Reach.f kj13 t218 (wrap64 (1 + t211))).bind fun bt219 => (if bt219.2 = 0 then (if bt219.1 < 0 then (tipstafflaw08_ProfileGrows.j2 kj13 (wrap64 (1 + t211)) t218 bt219.1 true) else (tipstafflaw08_ProfileGrows.j2 kj13 (wrap64 (1 + t211)) t218 bt219.1 (decide (bt219.1 ≥ 63000)))) else (tipstafflaw08_ProfileGrows.j2 kj13 (wrap64 (1 + t211)) t218 bt219.1 true))) = some r := H
            have A22 := Aside0.mk A220
            clear A220
            replace H := Option.bind_eq_some_iff.mp H
            obtain ⟨⟨t219, t220⟩, A230, H⟩ := H
            replace H : (if t220 = 0 then (if t219 < 0 then (tipstafflaw08_ProfileGrows.j2 kj13 (wrap64 (1 + t211)) t218 t219 true) else (tipstafflaw08_ProfileGrows.j2 kj13 (wrap64 (1 + t211)) t218 t219 (decide (t219 ≥ 63000)))) else (tipstafflaw08_ProfileGrows.j2 kj13 (wrap64 (1 + t211)) t218 t219 true)) = some r := H
            have A23 := Aside0.mk A230
            clear A230
            have HC24 := Aside0.mk H
            clear H
            go_upto_region 12 with (first | ((with_reducible refine gate_callee (f := 10) rfl ?_); refine goesL_ (some 65) rfl rfl Try.func10 (by kernel_rfl) rfl #[.int .i64 a2, .int .i64 400] rfl (by (try simp only [List.map_toArray, List.map_cons, List.map_nil]); first | done | rfl | (simp only [List.length_drop, List.length_take]; rfl)) ?_; (with_reducible refine (tipstaffkit_Mod.calls a2 400 t218 _ A22.out).mono ?_); rintro e w' ⟨rfl, ⟨nd, rfl⟩⟩; refine ⟨_, rfl, ?_⟩) | ((with_reducible refine gate_callee (f := 25) rfl ?_); refine goesL_ (some 69) rfl rfl Try.func25 (by kernel_rfl) rfl #[.int .i64 t218, .int .i64 (wrap64 (1 + t211))] rfl (by (try simp only [List.map_toArray, List.map_cons, List.map_nil]); first | done | rfl | (simp only [List.length_drop, List.length_take]; rfl)) ?_; (with_reducible refine (profile_Reach.calls kj13 t218 (wrap64 (1 + t211)) t219 t220 _ A23.out).mono ?_); rintro e w25 ⟨rfl, hb⟩; refine ⟨_, rfl, ?_⟩; have n0_ := Aside0.mk (below_step (by repeat (first | (with_reducible first | exact HB.out | apply below_alloc | apply pw_below_drewN | apply below_drew1) | exact HB.out)) hb); clear HB; have HB := n0_; clear n0_; (try clear hb); (try clear hb2); (try clear hk); (try clear hi)))
            (try simp only [Act.put, List.setIfInBounds_toArray, List.set_cons_zero, List.set_cons_succ])
            go_cut [81] (fun v81 wc => ∃ (kq : Nat) (x81_23 : Bool), v81 = .bool x81_23 ∧ Aside0 (tipstafflaw08_ProfileGrows.j2 kq (wrap64 (1 + t211)) t218 t219 x81_23 = some r) ∧ Aside0 (kq ≤ kj13) ∧ Aside0 (Below w.heap.size w wc))
            case first =>
              have H := HC24.out
              clear HC24
              by_cases c26 : t220 = 0
              · rw [if_pos c26] at H
                have c26b0 : (t220 == 0) = true := beq_iff_eq.mpr c26
                have c26b1 : (t220 != 0) = false := bne_eq_false_iff_eq.mpr c26
                clear c26
                (first | rw [c26b0] | (simp only [i64_w, i32_w]; rw [c26b0]) | skip)
                by_cases c27 : t219 < 0
                · rw [if_pos c27] at H
                  have c27b0 : decide (t219 < 0) = true := decide_eq_true c27
                  clear c27
                  have H' := Aside0.mk H
                  clear H
                  go_wp2
                  go_meet
                  case rel => exact ⟨_, (true), (by first | rfl | (simp; done) | (simp [*]; done)), H', ⟨by have := HJ7.out; have := HJ13.out; first | omega | exact Nat.le_refl _⟩, ⟨by repeat (first | (with_reducible first | exact HB.out | apply below_alloc | apply pw_below_drewN | apply below_drew1) | exact HB.out)⟩⟩
                · rw [if_neg c27] at H
                  have c27b0 : decide (t219 < 0) = false := decide_eq_false c27
                  clear c27
                  have H' := Aside0.mk H
                  clear H
                  go_wp2
                  go_meet
                  case rel => exact ⟨_, (decide (t219 ≥ 63000)), (by first | rfl | (simp; done) | (simp [*]; done)), H', ⟨by have := HJ7.out; have := HJ13.out; first | omega | exact Nat.le_refl _⟩, ⟨by repeat (first | (with_reducible first | exact HB.out | apply below_alloc | apply pw_below_drewN | apply below_drew1) | exact HB.out)⟩⟩
              · rw [if_neg c26] at H
                have c26b0 : (t220 == 0) = false := beq_eq_false_iff_ne.mpr c26
                have c26b1 : (t220 != 0) = true := bne_iff_ne.mpr c26
                (first | rw [c26b0] | (simp only [i64_w, i32_w]; rw [c26b0]) | skip)
                have H' := Aside0.mk H
                clear H
                go_wp2
                go_meet
                case rel => exact ⟨_, (true), (by first | rfl | (simp; done) | (simp [*]; done)), H', ⟨by have := HJ7.out; have := HJ13.out; first | omega | exact Nat.le_refl _⟩, ⟨by repeat (first | (with_reducible first | exact HB.out | apply below_alloc | apply pw_below_drewN | apply below_drew1) | exact HB.out)⟩⟩
            case rest =>
              clear HC24
              try clear c1
              try clear c2
              try clear p2
              try clear p6
              try clear c8
              try clear c10
              try clear c11
              try clear c11b0
              try clear c11b1
              try clear c12
              try clear c12b0
              try clear c12b1
              try clear c13
              try clear c15
              try clear c15b0
              try clear c17
              try clear c17b0
              try clear c17b1
              try clear c18
              try clear c18b0
              try clear c25
              try clear c26
              try clear c26b0
              try clear c26b1
              try clear c27
              try clear c27b0
              try clear p2
              try clear p6
              obtain ⟨kq, x81_23, rfl, HA, HJ23, HB⟩ := hcut
              cases kq with
              | zero => exact absurd HA.out (by simp [tipstafflaw08_ProfileGrows.j2])
              | succ kj23 =>
                have H := HA.out
                clear HA
                simp only [tipstafflaw08_ProfileGrows.j2] at H
                by_cases c28 : x81_23 = true
                · subst c28
                  have H1 : (some false) = some r := by rw [if_pos rfl] at H; exact H
                  clear H
                  have H := H1
                  clear H1
                  obtain rfl := Option.some.inj H
                  go_wp2
                  go_ret
                  exact ⟨by first | rfl | (simp [errW_none, errW_some] <;> rfl) | (simp [*, errW_none, errW_some] <;> rfl) | (simp (discharger := omega) only [Int.tdiv_eq_ediv_of_nonneg, Int.tmod_eq_emod_of_nonneg] <;> rfl), by repeat (first | (with_reducible first | exact HB.out | apply below_alloc | apply pw_below_drewN | apply below_drew1) | exact HB.out)⟩
                · replace c28 := Bool.eq_false_iff.mpr c28
                  subst c28
                  have H1 : ((profile_Travel.f kj23 t219 (wrap64 (1 + t211))).bind fun bt221 => ((profile_Travel.f kj23 (wrap64 (t219 + 1)) (wrap64 (1 + t211))).bind fun bt223 => (if bt221.2 = 0 then (if bt223.2 = 0 then (if bt221.1 ≤ t218 then (if bt223.1 > t218 then ((tipstafflaw08_awake.f kj23).bind fun t225 => (some t225)) else (some false)) else (some false)) else (some false)) else (some false)))) = some r := by rw [if_neg (show ¬ (false = true) by decide)] at H; exact H
                  clear H
                  have H := H1
                  clear H1
                  replace H := Option.bind_eq_some_iff.mp H
                  obtain ⟨⟨t221, t222⟩, A290, H⟩ := H
                  replace H : ((profile_Travel.f kj23 (wrap64 (t219 + 1)) (wrap64 (1 + t211))).bind fun bt223 => (if t222 = 0 then (if bt223.2 = 0 then (if t221 ≤ t218 then (if bt223.1 > t218 then ((tipstafflaw08_awake.f kj23).bind fun t225 => (some t225)) else (some false)) else (some false)) else (some false)) else (some false))) = some r := H
                  have A29 := Aside0.mk A290
                  clear A290
                  replace H := Option.bind_eq_some_iff.mp H
                  obtain ⟨⟨t223, t224⟩, A300, H⟩ := H
                  replace H : (if t222 = 0 then (if t224 = 0 then (if t221 ≤ t218 then (if t223 > t218 then ((tipstafflaw08_awake.f kj23).bind fun t225 => (some t225)) else (some false)) else (some false)) else (some false)) else (some false)) = some r := H
                  have A30 := Aside0.mk A300
                  clear A300
                  by_cases c31 : t222 = 0
                  · rw [if_pos c31] at H
                    have c31b0 : (t222 == 0) = true := beq_iff_eq.mpr c31
                    have c31b1 : (t222 != 0) = false := bne_eq_false_iff_eq.mpr c31
                    clear c31
                    by_cases c32 : t224 = 0
                    · rw [if_pos c32] at H
                      have c32b0 : (t224 == 0) = true := beq_iff_eq.mpr c32
                      have c32b1 : (t224 != 0) = false := bne_eq_false_iff_eq.mpr c32
                      clear c32
                      by_cases c33 : t221 ≤ t218
                      · rw [if_pos c33] at H
                        have c33b0 : decide (t221 ≤ t218) = true := decide_eq_true c33
                        clear c33
                        by_cases c34 : t223 > t218
                        · rw [if_pos c34] at H
                          have c34b0 : decide (t218 < t223) = true := decide_eq_true c34
                          clear c34
                          replace H := Option.bind_eq_some_iff.mp H
                          obtain ⟨t225, A350, H⟩ := H
                          replace H : (some t225) = some r := H
                          have A35 := Aside0.mk A350
                          clear A350
                          obtain rfl := Option.some.inj H
                          go_wp2_with (first | ((with_reducible refine gate_callee (f := 11) rfl ?_); refine goesL_ (some 85) rfl rfl Try.func11 (by kernel_rfl) rfl #[.int .i64 t219, .int .i64 (wrap64 (1 + t211))] rfl (by (try simp only [List.map_toArray, List.map_cons, List.map_nil]); first | done | rfl | (simp only [List.length_drop, List.length_take]; rfl)) ?_; (with_reducible refine (profile_Travel.calls kj23 t219 (wrap64 (1 + t211)) t221 t222 _ A29.out).mono ?_); rintro e w36 ⟨rfl, hb⟩; refine ⟨_, rfl, ?_⟩; have n0_ := Aside0.mk (below_step (by repeat (first | (with_reducible first | exact HB.out | apply below_alloc | apply pw_below_drewN | apply below_drew1) | exact HB.out)) hb); clear HB; have HB := n0_; clear n0_; (try clear hb); (try clear hb2); (try clear hk); (try clear hi)) | ((with_reducible refine gate_callee (f := 11) rfl ?_); refine goesL_ (some 92) rfl rfl Try.func11 (by kernel_rfl) rfl #[.int .i64 (wrap64 (t219 + 1)), .int .i64 (wrap64 (1 + t211))] rfl (by (try simp only [List.map_toArray, List.map_cons, List.map_nil]); first | done | rfl | (simp only [List.length_drop, List.length_take]; rfl)) ?_; (with_reducible refine (profile_Travel.calls kj23 (wrap64 (t219 + 1)) (wrap64 (1 + t211)) t223 t224 _ A30.out).mono ?_); rintro e w37 ⟨rfl, hb⟩; refine ⟨_, rfl, ?_⟩; have n0_ := Aside0.mk (below_step (by repeat (first | (with_reducible first | exact HB.out | apply below_alloc | apply pw_below_drewN | apply below_drew1) | exact HB.out)) hb); clear HB; have HB := n0_; clear n0_; (try clear hb); (try clear hb2); (try clear hk); (try clear hi)) | (go_at_call 12; (with_reducible refine (tipstafflaw08_awake.calls kj23  t225 _ A35.out).mono ?_); rintro e w38 ⟨rfl, hb⟩; have n0_ := Aside0.mk (below_step (by repeat (first | (with_reducible first | exact HB.out | apply below_alloc | apply pw_below_drewN | apply below_drew1) | exact HB.out)) hb); clear HB; have HB := n0_; clear n0_; (try clear hb); (try clear hb2); (try clear hk); (try clear hi)))
                          go_ret
                          exact ⟨by first | rfl | (simp [errW_none, errW_some] <;> rfl) | (simp [*, errW_none, errW_some] <;> rfl) | (simp (discharger := omega) only [Int.tdiv_eq_ediv_of_nonneg, Int.tmod_eq_emod_of_nonneg] <;> rfl), by repeat (first | (with_reducible first | exact HB.out | apply below_alloc | apply pw_below_drewN | apply below_drew1) | exact HB.out)⟩
                        · rw [if_neg c34] at H
                          have c34b0 : decide (t218 < t223) = false := decide_eq_false c34
                          clear c34
                          obtain rfl := Option.some.inj H
                          go_wp2_with (first | ((with_reducible refine gate_callee (f := 11) rfl ?_); refine goesL_ (some 85) rfl rfl Try.func11 (by kernel_rfl) rfl #[.int .i64 t219, .int .i64 (wrap64 (1 + t211))] rfl (by (try simp only [List.map_toArray, List.map_cons, List.map_nil]); first | done | rfl | (simp only [List.length_drop, List.length_take]; rfl)) ?_; (with_reducible refine (profile_Travel.calls kj23 t219 (wrap64 (1 + t211)) t221 t222 _ A29.out).mono ?_); rintro e w39 ⟨rfl, hb⟩; refine ⟨_, rfl, ?_⟩; have n0_ := Aside0.mk (below_step (by repeat (first | (with_reducible first | exact HB.out | apply below_alloc | apply pw_below_drewN | apply below_drew1) | exact HB.out)) hb); clear HB; have HB := n0_; clear n0_; (try clear hb); (try clear hb2); (try clear hk); (try clear hi)) | ((with_reducible refine gate_callee (f := 11) rfl ?_); refine goesL_ (some 92) rfl rfl Try.func11 (by kernel_rfl) rfl #[.int .i64 (wrap64 (t219 + 1)), .int .i64 (wrap64 (1 + t211))] rfl (by (try simp only [List.map_toArray, List.map_cons, List.map_nil]); first | done | rfl | (simp only [List.length_drop, List.length_take]; rfl)) ?_; (with_reducible refine (profile_Travel.calls kj23 (wrap64 (t219 + 1)) (wrap64 (1 + t211)) t223 t224 _ A30.out).mono ?_); rintro e w40 ⟨rfl, hb⟩; refine ⟨_, rfl, ?_⟩; have n0_ := Aside0.mk (below_step (by repeat (first | (with_reducible first | exact HB.out | apply below_alloc | apply pw_below_drewN | apply below_drew1) | exact HB.out)) hb); clear HB; have HB := n0_; clear n0_; (try clear hb); (try clear hb2); (try clear hk); (try clear hi)))
                          go_ret
                          exact ⟨by first | rfl | (simp [errW_none, errW_some] <;> rfl) | (simp [*, errW_none, errW_some] <;> rfl) | (simp (discharger := omega) only [Int.tdiv_eq_ediv_of_nonneg, Int.tmod_eq_emod_of_nonneg] <;> rfl), by repeat (first | (with_reducible first | exact HB.out | apply below_alloc | apply pw_below_drewN | apply below_drew1) | exact HB.out)⟩
                      · rw [if_neg c33] at H
                        have c33b0 : decide (t221 ≤ t218) = false := decide_eq_false c33
                        clear c33
                        obtain rfl := Option.some.inj H
                        go_wp2_with (first | ((with_reducible refine gate_callee (f := 11) rfl ?_); refine goesL_ (some 85) rfl rfl Try.func11 (by kernel_rfl) rfl #[.int .i64 t219, .int .i64 (wrap64 (1 + t211))] rfl (by (try simp only [List.map_toArray, List.map_cons, List.map_nil]); first | done | rfl | (simp only [List.length_drop, List.length_take]; rfl)) ?_; (with_reducible refine (profile_Travel.calls kj23 t219 (wrap64 (1 + t211)) t221 t222 _ A29.out).mono ?_); rintro e w41 ⟨rfl, hb⟩; refine ⟨_, rfl, ?_⟩; have n0_ := Aside0.mk (below_step (by repeat (first | (with_reducible first | exact HB.out | apply below_alloc | apply pw_below_drewN | apply below_drew1) | exact HB.out)) hb); clear HB; have HB := n0_; clear n0_; (try clear hb); (try clear hb2); (try clear hk); (try clear hi)) | ((with_reducible refine gate_callee (f := 11) rfl ?_); refine goesL_ (some 92) rfl rfl Try.func11 (by kernel_rfl) rfl #[.int .i64 (wrap64 (t219 + 1)), .int .i64 (wrap64 (1 + t211))] rfl (by (try simp only [List.map_toArray, List.map_cons, List.map_nil]); first | done | rfl | (simp only [List.length_drop, List.length_take]; rfl)) ?_; (with_reducible refine (profile_Travel.calls kj23 (wrap64 (t219 + 1)) (wrap64 (1 + t211)) t223 t224 _ A30.out).mono ?_); rintro e w42 ⟨rfl, hb⟩; refine ⟨_, rfl, ?_⟩; have n0_ := Aside0.mk (below_step (by repeat (first | (with_reducible first | exact HB.out | apply below_alloc | apply pw_below_drewN | apply below_drew1) | exact HB.out)) hb); clear HB; have HB := n0_; clear n0_; (try clear hb); (try clear hb2); (try clear hk); (try clear hi)))
                        go_ret
                        exact ⟨by first | rfl | (simp [errW_none, errW_some] <;> rfl) | (simp [*, errW_none, errW_some] <;> rfl) | (simp (discharger := omega) only [Int.tdiv_eq_ediv_of_nonneg, Int.tmod_eq_emod_of_nonneg] <;> rfl), by repeat (first | (with_reducible first | exact HB.out | apply below_alloc | apply pw_below_drewN | apply below_drew1) | exact HB.out)⟩
                    · rw [if_neg c32] at H
                      have c32b0 : (t224 == 0) = false := beq_eq_false_iff_ne.mpr c32
                      have c32b1 : (t224 != 0) = true := bne_iff_ne.mpr c32
                      obtain rfl := Option.some.inj H
                      go_wp2_with (first | ((with_reducible refine gate_callee (f := 11) rfl ?_); refine goesL_ (some 85) rfl rfl Try.func11 (by kernel_rfl) rfl #[.int .i64 t219, .int .i64 (wrap64 (1 + t211))] rfl (by (try simp only [List.map_toArray, List.map_cons, List.map_nil]); first | done | rfl | (simp only [List.length_drop, List.length_take]; rfl)) ?_; (with_reducible refine (profile_Travel.calls kj23 t219 (wrap64 (1 + t211)) t221 t222 _ A29.out).mono ?_); rintro e w43 ⟨rfl, hb⟩; refine ⟨_, rfl, ?_⟩; have n0_ := Aside0.mk (below_step (by repeat (first | (with_reducible first | exact HB.out | apply below_alloc | apply pw_below_drewN | apply below_drew1) | exact HB.out)) hb); clear HB; have HB := n0_; clear n0_; (try clear hb); (try clear hb2); (try clear hk); (try clear hi)) | ((with_reducible refine gate_callee (f := 11) rfl ?_); refine goesL_ (some 92) rfl rfl Try.func11 (by kernel_rfl) rfl #[.int .i64 (wrap64 (t219 + 1)), .int .i64 (wrap64 (1 + t211))] rfl (by (try simp only [List.map_toArray, List.map_cons, List.map_nil]); first | done | rfl | (simp only [List.length_drop, List.length_take]; rfl)) ?_; (with_reducible refine (profile_Travel.calls kj23 (wrap64 (t219 + 1)) (wrap64 (1 + t211)) t223 t224 _ A30.out).mono ?_); rintro e w44 ⟨rfl, hb⟩; refine ⟨_, rfl, ?_⟩; have n0_ := Aside0.mk (below_step (by repeat (first | (with_reducible first | exact HB.out | apply below_alloc | apply pw_below_drewN | apply below_drew1) | exact HB.out)) hb); clear HB; have HB := n0_; clear n0_; (try clear hb); (try clear hb2); (try clear hk); (try clear hi)))
                      go_ret
                      exact ⟨by first | rfl | (simp [errW_none, errW_some] <;> rfl) | (simp [*, errW_none, errW_some] <;> rfl) | (simp (discharger := omega) only [Int.tdiv_eq_ediv_of_nonneg, Int.tmod_eq_emod_of_nonneg] <;> rfl), by repeat (first | (with_reducible first | exact HB.out | apply below_alloc | apply pw_below_drewN | apply below_drew1) | exact HB.out)⟩
                  · rw [if_neg c31] at H
                    have c31b0 : (t222 == 0) = false := beq_eq_false_iff_ne.mpr c31
                    have c31b1 : (t222 != 0) = true := bne_iff_ne.mpr c31
                    obtain rfl := Option.some.inj H
                    go_wp2_with (first | ((with_reducible refine gate_callee (f := 11) rfl ?_); refine goesL_ (some 85) rfl rfl Try.func11 (by kernel_rfl) rfl #[.int .i64 t219, .int .i64 (wrap64 (1 + t211))] rfl (by (try simp only [List.map_toArray, List.map_cons, List.map_nil]); first | done | rfl | (simp only [List.length_drop, List.length_take]; rfl)) ?_; (with_reducible refine (profile_Travel.calls kj23 t219 (wrap64 (1 + t211)) t221 t222 _ A29.out).mono ?_); rintro e w45 ⟨rfl, hb⟩; refine ⟨_, rfl, ?_⟩; have n0_ := Aside0.mk (below_step (by repeat (first | (with_reducible first | exact HB.out | apply below_alloc | apply pw_below_drewN | apply below_drew1) | exact HB.out)) hb); clear HB; have HB := n0_; clear n0_; (try clear hb); (try clear hb2); (try clear hk); (try clear hi)) | ((with_reducible refine gate_callee (f := 11) rfl ?_); refine goesL_ (some 92) rfl rfl Try.func11 (by kernel_rfl) rfl #[.int .i64 (wrap64 (t219 + 1)), .int .i64 (wrap64 (1 + t211))] rfl (by (try simp only [List.map_toArray, List.map_cons, List.map_nil]); first | done | rfl | (simp only [List.length_drop, List.length_take]; rfl)) ?_; (with_reducible refine (profile_Travel.calls kj23 (wrap64 (t219 + 1)) (wrap64 (1 + t211)) t223 t224 _ A30.out).mono ?_); rintro e w46 ⟨rfl, hb⟩; refine ⟨_, rfl, ?_⟩; have n0_ := Aside0.mk (below_step (by repeat (first | (with_reducible first | exact HB.out | apply below_alloc | apply pw_below_drewN | apply below_drew1) | exact HB.out)) hb); clear HB; have HB := n0_; clear n0_; (try clear hb); (try clear hb2); (try clear hk); (try clear hi)))
                    go_ret
                    exact ⟨by first | rfl | (simp [errW_none, errW_some] <;> rfl) | (simp [*, errW_none, errW_some] <;> rfl) | (simp (discharger := omega) only [Int.tdiv_eq_ediv_of_nonneg, Int.tmod_eq_emod_of_nonneg] <;> rfl), by repeat (first | (with_reducible first | exact HB.out | apply below_alloc | apply pw_below_drewN | apply below_drew1) | exact HB.out)⟩

/-- THE ONE PURE STATEMENT of tipstafflaw08_ProfileGrows: yours. -/
def tipstafflaw08_ProfileGrows.Pure : Prop := ∀ (a0 : Int) (a1 : Int) (a2 : Int), (Lit.int .i64 a0).wf = true → (Lit.int .i64 a1).wf = true → (Lit.int .i64 a2).wf = true → ∃ k, tipstafflaw08_ProfileGrows.f k a0 a1 a2 = some true
theorem tipstafflaw08_ProfileGrows.walk (P : tipstafflaw08_ProfileGrows.Pure) (a0 : Int) (a1 : Int) (a2 : Int) (w : World) (w0 : (Lit.int .i64 a0).wf = true) (w1 : (Lit.int .i64 a1).wf = true) (w2 : (Lit.int .i64 a2).wf = true) :
    Calls Try.prog 8 #[.int .i64 a0, .int .i64 a1, .int .i64 a2] w fun e w' => e = .returned (.bool true) ∧ Below w.heap.size w w' := by
  obtain ⟨k, h⟩ := P a0 a1 a2 w0 w1 w2
  refine (tipstafflaw08_ProfileGrows.calls k a0 a1 a2 true w h).mono ?_
  rintro e w' ⟨rfl, hd⟩
  exact ⟨rfl, hd⟩

end Go.Proofs.Ytgjcpocncpeibaa.S
